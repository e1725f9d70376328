import PyProof.Rows.All
import HandS.ForMost
import HandS.Exc
import HandS.ExcInit
import HandS.Wide
import HandS.TupAny
import HandS.TupMul
import HandS.TupLe
import HandS.Style
import HandS.Deep
import HandS.Star
import HandS.IsInst
import HandS.SortInts
import HandS.Conv
import HandS.TryOnly
import HandS.More
import HandS.Defaults
import HandS.WordsExc
import HandS.ExcOwn
import HandS.Ends
import HandS.HeadEnd
import HandS.DictComp
import HandS.Iter
import PySem.Challenge.RW_hastyways_k30_what_is_a_shape
import KE.KStateDown
import HandS.Words
import HandS.Head0
import HandS.Head1
import HandS.Head2
import HandS.HeadHook1
import HandS.HeadHook2
import OpenK.AllK
import Wide.FinOn
set_option Elab.async false
set_option linter.all false
set_option maxRecDepth 100000
/-! SemA: values, cells, results; the relation between them and HandS's abstract heap. -/
namespace L2.HW
open PySem PySem.Spec PyProof.Rows

/-- a value: data; a cell (a list, a dict, an object that is changed in place); a tuple with a part that is no data; a dict that is no longer changed; an exception; the script -/
inductive Va where
  | d (x : PyData)
  | loc (n : Nat)
  | tup (ws : List Va)
  | dct (kvs : List (Int × PyData))
  | exc (c : Str) (f : Option PyData)
  | scr (ns : List Int)
/-- what a cell holds -/
inductive Ob where
  | lst (ws : List Va)
  | di (kvs : List (Int × Va))
  | dt (kvs : List (List Int × Va))
  | ins (c : Str) (fs : List (Str × Va))
/-- the cells: none: locked (walked just now) -/
abbrev LH := List (Option Ob)
abbrev En := List (Option Va)
inductive Res (α : Type) where
  | ok (a : α) (L : LH)
  | exc (c : Str) (f : Option PyData) (L : LH)
  | stuck
def Res.bind {α β : Type} (r : Res α) (k : α → LH → Res β) : Res β :=
  match r with
  | .ok a L => k a L
  | .exc c f L => .exc c f L
  | .stuck => .stuck
@[simp] theorem Res.bind_ok {α β : Type} (a : α) (L : LH) (k : α → LH → Res β) : (Res.ok a L).bind k = k a L := (rfl)
@[simp] theorem Res.bind_exc {α β : Type} (c : Str) (f : Option PyData) (L : LH) (k : α → LH → Res β) : (Res.exc c f L).bind k = .exc c f L := (rfl)
@[simp] theorem Res.bind_stuck {α β : Type} (k : α → LH → Res β) : (Res.stuck).bind k = .stuck := (rfl)
abbrev EF := En → LH → Res Va

/-- the heap without what stands at protected addresses -/
def mask (H : Hp) (P : List Addr) : Hp := fun b => if b ∈ P then none else H b
theorem mask_of {H : Hp} {P : List Addr} {b : Addr} {o : HO} (n : b ∉ P) (e : H b = some o) : mask H P b = some o := by
  unfold mask; rw [if_neg n]; exact e
theorem of_mask {H : Hp} {P : List Addr} {b : Addr} {o : HO} (e : mask H P b = some o) : b ∉ P ∧ H b = some o := by
  unfold mask at e
  split at e
  · cases e
  · exact ⟨by assumption, e⟩
/-- one heap tells all that another one tells -/
def Le (M M' : Hp) : Prop := ∀ b o, M b = some o → M' b = some o
theorem Le.refl (M : Hp) : Le M M := fun _ _ e => e
theorem Le.trans {A B C : Hp} (h : Le A B) (k : Le B C) : Le A C := fun b o e => k b o (h b o e)
theorem mask_le (H : Hp) (P : List Addr) : Le (mask H P) H := fun _ _ e => (of_mask e).2
theorem Rd.le {M M' : Hp} (h : Le M M') {a : Addr} {u : HO} (r : Rd M a u) : Rd M' a u := by
  rcases r with r | ⟨o, r⟩
  · exact .inl (h _ _ r)
  · exact .inr ⟨o, h _ _ r⟩
theorem SqL.le {K : PySem.W.Frag} {M M' : Hp} (h : Le M M') {a : Addr} {xs : List V} (r : SqL K M a xs) : SqL K M' a xs := by
  rcases r with r | r
  · exact .inl (Rd.le h r)
  · exact .inr r
mutual
/-- v is the data x -/
inductive Dq (M : Hp) : V → PyData → Prop
  | non : Dq M .non .none
  | bl (b : Bool) : Dq M (.bl b) (.bool b)
  | int (i : Int) : Dq M (.int i) (.int i)
  | str (x : Str) : Dq M (.str x) (.str x)
  | lst {a : Addr} {xs : List V} {ds : List PyData} : M a = some (.lst xs) → DqAll M xs ds → Dq M (.ref a) (.list ds)
  | tup {a : Addr} {xs : List V} {ds : List PyData} : M a = some (.tup xs) → DqAll M xs ds → Dq M (.ref a) (.tuple ds)
inductive DqAll (M : Hp) : List V → List PyData → Prop
  | nil : DqAll M [] []
  | cons {v : V} {vs : List V} {d : PyData} {ds : List PyData} : Dq M v d → DqAll M vs ds → DqAll M (v :: vs) (d :: ds)
end
mutual
theorem Dq.le {M M' : Hp} (h : Le M M') : ∀ {v : V} {x : PyData}, Dq M v x → Dq M' v x
  | _, _, .non => .non
  | _, _, .bl b => .bl b
  | _, _, .int i => .int i
  | _, _, .str x => .str x
  | _, _, .lst q r => .lst (h _ _ q) (DqAll.le h r)
  | _, _, .tup q r => .tup (h _ _ q) (DqAll.le h r)
theorem DqAll.le {M M' : Hp} (h : Le M M') : ∀ {vs : List V} {xs : List PyData}, DqAll M vs xs → DqAll M' vs xs
  | _, _, .nil => .nil
  | _, _, .cons a b => .cons (Dq.le h a) (DqAll.le h b)
end
mutual
theorem Dq.dp {K : PySem.W.Frag} {M : Hp} : ∀ {v : V} {x : PyData}, Dq M v x → Dp K M v x
  | _, _, .non => .non
  | _, _, .bl b => .bl b
  | _, _, .int i => .int i
  | _, _, .str x => .str x
  | _, _, .lst q r => .lst (SqL.of q) (DqAll.dp r)
  | _, _, .tup q r => .tup (SqT.of q) (DqAll.dp r)
theorem DqAll.dp {K : PySem.W.Frag} {M : Hp} : ∀ {vs : List V} {xs : List PyData}, DqAll M vs xs → DpAll K M vs xs
  | _, _, .nil => .nil
  | _, _, .cons a b => .cons (Dq.dp a) (DqAll.dp b)
end
theorem DqAll.len {M : Hp} : ∀ {vs : List V} {xs : List PyData}, DqAll M vs xs → vs.length = xs.length
  | _, _, .nil => rfl
  | _, _, .cons _ b => by simp [DqAll.len b]

/-- an exception's object that is held -/
def exk (e C : Addr) (d : Option Addr) : HO := .ext fun h => ∃ (oe : Obj) (vs : Array Value), h.get? e = some oe ∧ oe.cls = .ref C ∧ oe.dict = d ∧ oe.data = .fields vs
/-- what an exception carries: its class, its own dict -/
def ExR (mg : Str → Option Value) (M : Hp) (c : Str) (f : Option PyData) (cls : Value) (d : Option Addr) : Prop :=
  ∃ C : Addr, mg c = some (.ref C) ∧ cls = .ref C ∧ match f with
    | none => d = none
    | some x => ∃ dd v, d = some dd ∧ M dd = some (.xd [("spot", v)]) ∧ Dq M v x
theorem ExR.le {mg : Str → Option Value} {M M' : Hp} (h : Le M M') {c : Str} {f : Option PyData} {cls : Value} {d : Option Addr} (r : ExR mg M c f cls d) : ExR mg M' c f cls d := by
  obtain ⟨C, h1, h2, h3⟩ := r
  refine ⟨C, h1, h2, ?_⟩
  cases f with
  | none => exact h3
  | some x =>
    obtain ⟨dd, v, e1, e2, e3⟩ := h3
    exact ⟨dd, v, e1, h _ _ e2, Dq.le h e3⟩

def KDp (M : Hp) : List (Key × V) → List (Int × PyData) → Prop := Paired fun (p : Key × V) (q : Int × PyData) => p.1 = Sum.inl q.1 ∧ Dq M p.2 q.2
theorem Paired.map2 {α β : Type} {F G : α → β → Prop} (h : ∀ a b, F a b → G a b) : ∀ {xs : List α} {ys : List β}, Paired F xs ys → Paired G xs ys
  | _, _, .nil => .nil
  | _, _, .cons a b => .cons (h _ _ a) (Paired.map2 h b)
theorem KDp.le {M M' : Hp} (h : Le M M') {a : List (Key × V)} {b : List (Int × PyData)} (r : KDp M a b) : KDp M' a b :=
  Paired.map2 (fun _ _ q => ⟨q.1, Dq.le h q.2⟩) r

/-- what a value stands for: M is the heap of what is not changed, al the cells' addresses -/
inductive Rp (K : PySem.W.Frag) (mg : Str → Option Value) (M : Hp) (al : List Addr) : V → Va → Prop where
  | d {v : V} {x : PyData} : Dq M v x → Rp K mg M al v (.d x)
  | loc {n : Nat} {a : Addr} : al[n]? = some a → Rp K mg M al (.ref a) (.loc n)
  | tup {a : Addr} {vs : List V} {ws : List Va} : M a = some (.tup vs) → Paired (Rp K mg M al) vs ws → Rp K mg M al (.ref a) (.tup ws)
  | dct {a : Addr} {kvs : List (Key × V)} {ks : List (Int × PyData)} : M a = some (.dK kvs) → KDp M kvs ks → Rp K mg M al (.ref a) (.dct ks)
  | exc {a : Addr} {C : Addr} {c : Str} {f : Option PyData} {d : Option Addr} : M a = some (exk a C d) → ExR mg M c f (.ref C) d → Rp K mg M al (.ref a) (.exc c f)
  | scr {a : Addr} {ns : List Int} : SqL K M a (ns.map V.int) → Rp K mg M al (.ref a) (.scr ns)
end L2.HW
/-! SemB: the relation of cells to the heap, steps. -/
namespace L2.HW
open PySem PySem.Spec PyProof.Rows
section
variable {K : PySem.W.Frag} {mg : Str → Option Value}
abbrev Rps (K : PySem.W.Frag) (mg : Str → Option Value) (M : Hp) (al : List Addr) : List V → List Va → Prop := Paired (Rp K mg M al)
def ALe (al al' : List Addr) : Prop := ∀ (n : Nat) (a : Addr), al[n]? = some a → al'[n]? = some a
theorem ALe.refl (al : List Addr) : ALe al al := fun _ _ e => e
theorem ALe.app (al be : List Addr) : ALe al (al ++ be) := fun n a e => by
  obtain ⟨h, _⟩ := List.getElem?_eq_some_iff.mp e
  rw [List.getElem?_append_left h]; exact e
mutual
theorem Rp.le {M M' : Hp} {al al' : List Addr} (h : Le M M') (ha : ALe al al') : ∀ {v : V} {w : Va}, Rp K mg M al v w → Rp K mg M' al' v w
  | _, _, .d q => .d (Dq.le h q)
  | _, _, .loc e => .loc (ha _ _ e)
  | _, _, .scr q => .scr (SqL.le h q)
  | _, _, .tup q r => .tup (h _ _ q) (Rps.le h ha r)
  | _, _, .dct e q => .dct (h _ _ e) (KDp.le h q)
  | _, _, .exc e q => .exc (h _ _ e) (ExR.le h q)
theorem Rps.le {M M' : Hp} {al al' : List Addr} (h : Le M M') (ha : ALe al al') : ∀ {vs : List V} {ws : List Va}, Rps K mg M al vs ws → Rps K mg M' al' vs ws
  | _, _, .nil => .nil
  | _, _, .cons a b => .cons (Rp.le h ha a) (Rps.le h ha b)
end

def KRp (K : PySem.W.Frag) (mg : Str → Option Value) (M : Hp) (al : List Addr) : List (Key × V) → List (Int × Va) → Prop := Paired fun (p : Key × V) (q : Int × Va) => p.1 = Sum.inl q.1 ∧ Rp K mg M al p.2 q.2
def TRp (K : PySem.W.Frag) (mg : Str → Option Value) (M : Hp) (al : List Addr) : List (List Key × V) → List (List Int × Va) → Prop := Paired fun (p : List Key × V) (q : List Int × Va) => p.1 = q.1.map Sum.inl ∧ Rp K mg M al p.2 q.2
def FRp (K : PySem.W.Frag) (mg : Str → Option Value) (M : Hp) (al : List Addr) : List (Str × V) → List (Str × Va) → Prop := Paired fun (p : Str × V) (q : Str × Va) => p.1 = q.1 ∧ Rp K mg M al p.2 q.2
/-- what stands at a cell's address: H the heap, M what is not changed -/
def ObR (K : PySem.W.Frag) (mg : Str → Option Value) (M : Hp) (al : List Addr) (H : Hp) (a : Addr) : Ob → Prop
  | .lst ws => ∃ vs, H a = some (.lst vs) ∧ Rps K mg M al vs ws
  | .di kvs => ∃ ks, H a = some (.dK ks) ∧ KRp K mg M al ks kvs
  | .dt kvs => ∃ ks, H a = some (.dT ks) ∧ TRp K mg M al ks kvs
  | .ins c fs => ∃ C dx ks, mg c = some (.ref C) ∧ H a = some (.ins C dx ks) ∧ FRp K mg M al ks fs
theorem ObR.le {M M' H H' : Hp} {al al' : List Addr} {a : Addr} (h : Le M M') (ha : ALe al al') (hh : ∀ o, H a = some o → H' a = some o) : ∀ {o : Ob}, ObR K mg M al H a o → ObR K mg M' al' H' a o
  | .lst ws, ⟨vs, e, r⟩ => ⟨vs, hh _ e, Rps.le h ha r⟩
  | .di kvs, ⟨ks, e, r⟩ => ⟨ks, hh _ e, Paired.map2 (fun _ _ q => ⟨q.1, Rp.le h ha q.2⟩) r⟩
  | .dt kvs, ⟨ks, e, r⟩ => ⟨ks, hh _ e, Paired.map2 (fun _ _ q => ⟨q.1, Rp.le h ha q.2⟩) r⟩
  | .ins c fs, ⟨C, dx, ks, e1, e2, r⟩ => ⟨C, dx, ks, e1, hh _ e2, Paired.map2 (fun _ _ q => ⟨q.1, Rp.le h ha q.2⟩) r⟩
theorem ObR.there {M H : Hp} {al : List Addr} {a : Addr} : ∀ {o : Ob}, ObR K mg M al H a o → ∃ u, H a = some u
  | .lst _, ⟨_, e, _⟩ => ⟨_, e⟩
  | .di _, ⟨_, e, _⟩ => ⟨_, e⟩
  | .dt _, ⟨_, e, _⟩ => ⟨_, e⟩
  | .ins _ _, ⟨_, _, _, _, e, _⟩ => ⟨_, e⟩
/-- the cells L stand at the addresses al; T: further protected addresses -/
structure Rel (K : PySem.W.Frag) (mg : Str → Option Value) (H : Hp) (al T : List Addr) (L : LH) : Prop where
  len : al.length = L.length
  nd : al.Nodup
  dis : ∀ a ∈ al, a ∉ T
  trk : ∀ a, a ∈ al ∨ a ∈ T → H a ≠ none
  cell : ∀ (n : Nat) (o : Ob), L[n]? = some (some o) → ∃ a, al[n]? = some a ∧ ObR K mg (mask H (al ++ T)) al H a o
/-- a is the address of a cell that may be changed -/
def Alv (al : List Addr) (L : LH) (b : Addr) : Prop := ∃ (n : Nat) (o : Ob), al[n]? = some b ∧ L[n]? = some (some o)
structure Stp (K : PySem.W.Frag) (mg : Str → Option Value) (H : Hp) (al T : List Addr) (L : LH) (H' : Hp) (al' T' : List Addr) (L' : LH) : Prop where
  rel : Rel K mg H' al' T' L'
  ext : ∃ be, al' = al ++ be ∧ ∀ b ∈ be, H b = none
  text : ∃ te, T' = te ++ T ∧ ∀ b ∈ te, H b = none
  frame : ∀ b o, H b = some o → ¬ Alv al L b → H' b = some o
  stay : ∀ b, H b ≠ none → H' b ≠ none
  lck : ∀ (n : Nat), L[n]? = some none → L'[n]? = some none
  alv : ∀ (n : Nat) (o : Ob), L[n]? = some (some o) → ∃ o', L'[n]? = some (some o')
variable {H H1 H2 : Hp} {al al1 al2 T T1 T2 : List Addr} {L L1 L2 : LH}
theorem Alv.mem {b : Addr} (h : Alv al L b) : b ∈ al := let ⟨_, _, e, _⟩ := h; List.mem_of_getElem? e
theorem Stp.ale (s : Stp K mg H al T L H1 al1 T1 L1) : ALe al al1 := by
  obtain ⟨be, e, _⟩ := s.ext
  rw [e]; exact ALe.app al be
theorem Stp.llen (s : Stp K mg H al T L H1 al1 T1 L1) : L.length ≤ L1.length ∨ al.length ≠ L.length := by
  obtain ⟨be, e, _⟩ := s.ext
  have h := s.rel.len
  rw [e, List.length_append] at h
  by_cases q : al.length = L.length
  · left; omega
  · exact .inr q
/-- what is not changed is told on -/
theorem Stp.le (s : Stp K mg H al T L H1 al1 T1 L1) : Le (mask H (al ++ T)) (mask H1 (al1 ++ T1)) := fun b o e => by
  obtain ⟨n, e⟩ := of_mask e
  obtain ⟨be, e1, f1⟩ := s.ext
  obtain ⟨te, e2, f2⟩ := s.text
  have nal : b ∉ al := fun z => n (List.mem_append_left _ z)
  have nT : b ∉ T := fun z => n (List.mem_append_right _ z)
  refine mask_of (fun z => ?_) (s.frame b o e fun z => nal z.mem)
  rw [e1, e2] at z
  simp only [List.mem_append] at z
  rcases z with (z | z) | (z | z)
  · exact nal z
  · rw [f1 b z] at e; cases e
  · rw [f2 b z] at e; cases e
  · exact nT z
theorem Stp.rp (s : Stp K mg H al T L H1 al1 T1 L1) {v : V} {w : Va} (r : Rp K mg (mask H (al ++ T)) al v w) : Rp K mg (mask H1 (al1 ++ T1)) al1 v w := Rp.le s.le s.ale r
theorem Stp.rps (s : Stp K mg H al T L H1 al1 T1 L1) {v : List V} {w : List Va} (r : Rps K mg (mask H (al ++ T)) al v w) : Rps K mg (mask H1 (al1 ++ T1)) al1 v w := Rps.le s.le s.ale r
theorem Stp.refl (r : Rel K mg H al T L) : Stp K mg H al T L H al T L :=
  ⟨r, ⟨[], by simp, fun _ z => nomatch z⟩, ⟨[], by simp, fun _ z => nomatch z⟩, fun _ _ e _ => e, fun _ e => e, fun _ e => e, fun _ o e => ⟨o, e⟩⟩
theorem Stp.alvB (s : Stp K mg H al T L H1 al1 T1 L1) (hl : al.length = L.length) {b : Addr} (hb : H b ≠ none) (h : Alv al1 L1 b) : Alv al L b := by
  obtain ⟨n, o, e1, e2⟩ := h
  obtain ⟨be, e, f⟩ := s.ext
  by_cases q : n < al.length
  · have e3 : al[n]? = some b := by rw [e, List.getElem?_append_left q] at e1; exact e1
    have hn : n < L.length := by omega
    cases e4 : L[n] with
    | none =>
      have : L[n]? = some none := by rw [List.getElem?_eq_getElem hn, e4]
      rw [s.lck n this] at e2; cases e2
    | some o' => exact ⟨n, o', e3, by rw [List.getElem?_eq_getElem hn, e4]⟩
  · have : b ∈ be := by
      rw [e, List.getElem?_append_right (by omega)] at e1
      exact List.mem_of_getElem? e1
    exact absurd (f b this) hb
theorem Stp.trans (hl : al.length = L.length) (s : Stp K mg H al T L H1 al1 T1 L1) (t : Stp K mg H1 al1 T1 L1 H2 al2 T2 L2) : Stp K mg H al T L H2 al2 T2 L2 := by
  obtain ⟨be1, e1, f1⟩ := s.ext
  obtain ⟨be2, e2, f2⟩ := t.ext
  obtain ⟨te1, e3, f3⟩ := s.text
  obtain ⟨te2, e4, f4⟩ := t.text
  have back : ∀ b, H1 b = none → H b = none := fun b z => by
    cases e : H b with
    | none => rfl
    | some o => exact absurd z (s.stay b (by rw [e]; simp))
  refine ⟨t.rel, ⟨be1 ++ be2, by rw [e2, e1, List.append_assoc], fun b hb => ?_⟩, ⟨te2 ++ te1, by rw [e4, e3, List.append_assoc], fun b hb => ?_⟩, fun b o e n => ?_, fun b e => t.stay b (s.stay b e), fun n e => t.lck n (s.lck n e), fun n o e => ?_⟩
  · rcases List.mem_append.mp hb with z | z
    · exact f1 b z
    · exact back b (f2 b z)
  · rcases List.mem_append.mp hb with z | z
    · exact back b (f4 b z)
    · exact f3 b z
  · have h1 := s.frame b o e n
    exact t.frame b o h1 fun z => n (s.alvB hl (by rw [e]; simp) z)
  · obtain ⟨o', e'⟩ := s.alv n o e
    exact t.alv n o' e'
/-- forgetting what was protected last -/
theorem Stp.drop {te : List Addr} (hte : ∀ b ∈ te, H b = none) (s : Stp K mg H al T L H1 al1 (te ++ T) L1) : Stp K mg H al T L H1 al1 T L1 := by
  have r := s.rel
  have m : Le (mask H1 (al1 ++ (te ++ T))) (mask H1 (al1 ++ T)) := fun b o e => by
    obtain ⟨n, e⟩ := of_mask e
    exact mask_of (fun z => n (by simp only [List.mem_append] at z ⊢; rcases z with z | z; exact .inl z; exact .inr (.inr z))) e
  refine ⟨⟨r.len, r.nd, fun a h z => r.dis a h (List.mem_append_right _ z), fun a h => r.trk a (h.imp id fun z => List.mem_append_right _ z), fun n o e => ?_⟩, s.ext, ⟨[], by simp, fun _ z => nomatch z⟩, s.frame, s.stay, s.lck, s.alv⟩
  obtain ⟨a, e1, q⟩ := r.cell n o e
  exact ⟨a, e1, ObR.le m (ALe.refl _) (fun _ e => e) q⟩
end

/-- the configuration of a frame: slots, cells -/
structure Conf (K : PySem.W.Frag) (mg : Str → Option Value) (σ : St) (H : Hp) (env : En) (L : LH) (al T : List Addr) : Prop where
  rel : Rel K mg H al T L
  len : σ.length = env.length
  slot : ∀ (i : Nat) (w : Va), env[i]? = some (some w) → ∃ v, σ[i]? = some (some v) ∧ Rp K mg (mask H (al ++ T)) al v w
theorem Conf.stp {K : PySem.W.Frag} {mg : Str → Option Value} {σ : St} {H H' : Hp} {env : En} {L L' : LH} {al al' T T' : List Addr} (c : Conf K mg σ H env L al T) (s : Stp K mg H al T L H' al' T' L') : Conf K mg σ H' env L' al' T' :=
  ⟨s.rel, c.len, fun i w e => let ⟨v, h1, h2⟩ := c.slot i w e; ⟨v, h1, s.rp h2⟩⟩
theorem Conf.put {K : PySem.W.Frag} {mg : Str → Option Value} {σ : St} {H : Hp} {env : En} {L : LH} {al T : List Addr} (c : Conf K mg σ H env L al T) {i : Nat} {v : V} {w : Va} (r : Rp K mg (mask H (al ++ T)) al v w) : Conf K mg (σ.set i (some v)) H (env.set i (some w)) L al T :=
  ⟨c.rel, by simpa using c.len, fun j u e => by
    by_cases h : i = j
    · subst h
      have hi : i < env.length := by
        by_cases q : i < env.length
        · exact q
        · rw [List.getElem?_eq_none (by simpa using q)] at e; cases e
      rw [List.getElem?_set_self hi] at e
      cases e
      exact ⟨v, List.getElem?_set_self (by rw [c.len]; exact hi), r⟩
    · rw [List.getElem?_set_ne h] at e ⊢
      exact c.slot j u e⟩
/-- slots alike but for some -/
def Agr (sl : List Nat) (σ σ' : St) : Prop := σ'.length = σ.length ∧ ∀ j, j ∉ sl → σ'[j]? = σ[j]?
theorem Agr.refl (sl : List Nat) (σ : St) : Agr sl σ σ := ⟨rfl, fun _ _ => rfl⟩
theorem Agr.trans {sl sl' : List Nat} {a b c : St} (h : Agr sl a b) (k : Agr sl' b c) : Agr (sl ++ sl') a c := ⟨k.1.trans h.1, fun j hj => (k.2 j fun z => hj (List.mem_append_right _ z)).trans (h.2 j fun z => hj (List.mem_append_left _ z))⟩
theorem Agr.put (i : Nat) (v : Option V) (σ : St) : Agr [i] σ (σ.set i v) := ⟨by simp, fun j hj => by rw [List.getElem?_set_ne]; intro z; exact hj (by simp [z])⟩
end L2.HW
/-! SemC: the judgements; names, constants, operators, tests. -/
namespace L2.HW
open PySem PySem.Spec PyProof.Rows

/-- behind a run with the result r: what the wanted end Q is given -/
def GPost (X : Cx) (Wx : WX) (σ : St) (H : Hp) (al T : List Addr) (L : LH) {α β : Type} (R : Hp → List Addr → β → α → Prop) (r : Res α) (Q : β → Hp → Prop) : Prop :=
  match r with
  | .ok a L' => ∀ b H' al', Stp X.K X.mg H al T L H' al' T L' → R (mask H' (al' ++ T)) al' b a → Q b H'
  | .exc c f L' => ∀ cls d H' al', Stp X.K X.mg H al T L H' al' T L' → ExR X.mg (mask H' (al' ++ T)) c f cls d → Wx cls d σ H'
  | .stuck => False
abbrev RV (X : Cx) : Hp → List Addr → V → Va → Prop := Rp X.K X.mg
abbrev RVs (X : Cx) : Hp → List Addr → List V → List Va → Prop := Rps X.K X.mg
def RB : Hp → List Addr → Bool → Bool → Prop := fun _ _ b a => b = a
def RO : Hp → List Addr → Option Int → Option Int → Prop := fun _ _ b a => b = a
/-- the reading of a run -/
def Rdg (X : Cx) (Wx : WX) {α β : Type} (R : Hp → List Addr → β → α → Prop) (f : En → LH → Res α) : St → Hp → (β → Hp → Prop) → Prop :=
  fun σ H Q => ∃ env L al T, Conf X.K X.mg σ H env L al T ∧ GPost X Wx σ H al T L R (f env L) Q
def SE (X : Cx) (Wx : WX) (e : Expr) (f : EF) : Prop := PE X e (Rdg X Wx (RV X) f)
def ST (X : Cx) (Wx : WX) (e : Expr) (f : En → LH → Res Bool) : Prop := PT X e (Rdg X Wx RB f)
def SW (X : Cx) (Wx : WX) (e : Expr) (f : En → LH → Res Bool) : Prop := PW X e (Rdg X Wx RB f)
def SA (X : Cx) (Wx : WX) (es : List Expr) (f : En → LH → Res (List Va)) : Prop := PA X es (Rdg X Wx (RVs X) f)
theorem PE.imp {X : Cx} {e : Expr} {t t' : TE} (h : PE X e t) (k : ∀ σ H Q, t' σ H Q → t σ H Q) : PE X e t' := ⟨fun pins s σ H Q I q => h.run pins s σ H Q I (k σ H Q q)⟩
theorem PT.imp {X : Cx} {e : Expr} {t t' : TT} (h : PT X e t) (k : ∀ σ H Q, t' σ H Q → t σ H Q) : PT X e t' := ⟨fun pins s σ H Q I q => h.run pins s σ H Q I (k σ H Q q)⟩
theorem PW.imp {X : Cx} {e : Expr} {t t' : TT} (h : PW X e t) (k : ∀ σ H Q, t' σ H Q → t σ H Q) : PW X e t' := ⟨fun w pins s σ H Q I q => h.run w pins s σ H Q I (k σ H Q q)⟩
theorem PA.imp {X : Cx} {e : List Expr} {t t' : TA} (h : PA X e t) (k : ∀ σ H Q, t' σ H Q → t σ H Q) : PA X e t' := ⟨fun pos pins s σ H Q I q => h.run pos pins s σ H Q I (k σ H Q q)⟩
theorem PS.imp {X : Cx} {e : Stmt} {t t' : TS} (h : PS X e t) (k : ∀ D σ H, t' D σ H → t D σ H) : PS X e t' := ⟨fun pins s σ H D I q => h.run pins s σ H D I (k D σ H q)⟩
theorem PSs.imp {X : Cx} {e : List Stmt} {t t' : TS} (h : PSs X e t) (k : ∀ D σ H, t' D σ H → t D σ H) : PSs X e t' := ⟨fun pins s σ H D I q => h.run pins s σ H D I (k D σ H q)⟩

section
variable {X : Cx} {Wx : WX} {σ : St} {H H1 : Hp} {al al1 T : List Addr} {L L1 : LH} {α β γ δ : Type} {R : Hp → List Addr → β → α → Prop} {S : Hp → List Addr → δ → γ → Prop}
theorem GPost.on (hl : al.length = L.length) (s : Stp X.K X.mg H al T L H1 al1 T L1) {r : Res α} {Q : β → Hp → Prop} (h : GPost X Wx σ H al T L R r Q) : GPost X Wx σ H1 al1 T L1 R r Q := by
  cases r with
  | ok a L' => exact fun b H' al' t q => h b H' al' (Stp.trans hl s t) q
  | exc c f L' => exact fun cls d H' al' t q => h cls d H' al' (Stp.trans hl s t) q
  | stuck => exact h
/-- a part is run, then the rest -/
theorem gbind {f : Res α} {k : α → LH → Res γ} {Q : δ → Hp → Prop} (hl : al.length = L.length) (h : GPost X Wx σ H al T L S (f.bind k) Q) :
    GPost X Wx σ H al T L R f (fun b H1 => ∃ a L1 al1, Stp X.K X.mg H al T L H1 al1 T L1 ∧ R (mask H1 (al1 ++ T)) al1 b a ∧ GPost X Wx σ H1 al1 T L1 S (k a L1) Q) := by
  cases f with
  | ok a L' => exact fun b H' al' s q => ⟨a, L', al', s, q, GPost.on hl s h⟩
  | exc c f L' => exact h
  | stuck => exact h
/-- .. in a frame -/
theorem rbind {env : En} {f : En → LH → Res α} {k : α → LH → Res γ} {Q : δ → Hp → Prop} (c : Conf X.K X.mg σ H env L al T) (h : GPost X Wx σ H al T L S ((f env L).bind k) Q) :
    Rdg X Wx R f σ H (fun b H1 => ∃ a L1 al1, Conf X.K X.mg σ H1 env L1 al1 T ∧ Stp X.K X.mg H al T L H1 al1 T L1 ∧ R (mask H1 (al1 ++ T)) al1 b a ∧ GPost X Wx σ H1 al1 T L1 S (k a L1) Q) := by
  refine ⟨env, L, al, T, c, ?_⟩
  have g := gbind (R := R) c.rel.len h
  revert g
  generalize f env L = r
  intro g
  cases r with
  | ok a L' => exact fun b H' al' s q => let ⟨a, L1, al1, s1, q1, g1⟩ := g b H' al' s q; ⟨a, L1, al1, c.stp s1, s1, q1, g1⟩
  | exc c f L' => exact g
  | stuck => exact g
theorem gok (r : Rel X.K X.mg H al T L) {a : α} {b : β} {Q : β → Hp → Prop} (h : GPost X Wx σ H al T L R (.ok a L) Q) (q : R (mask H (al ++ T)) al b a) : Q b H := h b H al (Stp.refl r) q

/-! ### names, constants -/
def eVar (i : Nat) : EF := fun env L => match env[i]? with
  | some (some w) => .ok w L
  | _ => .stuck
theorem se_var {i : Nat} {x : Str} {pos : Pos} (hN : X.N[i]? = some x) (hv : Vis X.env.scope x) (hd : (x == ("__debug__" : Str)) = false := by decide) (hcd : (x == ("__classdict__" : Str)) = false := by decide) : SE X Wx (.Name x pos) (eVar i) := by
  refine PE.imp (pe_var hN hv hd hcd) ?_
  rintro σ H Q ⟨env, L, al, T, c, h⟩
  unfold eVar at h
  cases e : env[i]? with
  | none => rw [e] at h; exact h.elim
  | some o =>
    cases o with
    | none => rw [e] at h; exact h.elim
    | some w =>
      rw [e] at h
      obtain ⟨v, h1, h2⟩ := c.slot i w e
      exact ⟨v, h1, gok c.rel h h2⟩
def eC (x : PyData) : EF := fun _ L => .ok (.d x) L
theorem se_int {i : Int} {j : Nat} {pos : Pos} : SE X Wx (.Constant (.int i) j pos) (eC (.int i)) := PE.imp pe_int fun σ H Q ⟨env, L, al, T, c, h⟩ => gok c.rel h (.d (.int i))
theorem se_bl {b : Bool} {j : Nat} {pos : Pos} : SE X Wx (.Constant (.bool b) j pos) (eC (.bool b)) := PE.imp pe_bl fun σ H Q ⟨env, L, al, T, c, h⟩ => gok c.rel h (.d (.bl b))
theorem se_non {j : Nat} {pos : Pos} : SE X Wx (.Constant .none j pos) (eC .none) := PE.imp pe_non fun σ H Q ⟨env, L, al, T, c, h⟩ => gok c.rel h (.d .non)
theorem se_str {x : Str} {j : Nat} {pos : Pos} : SE X Wx (.Constant (.str x) j pos) (eC (.str x)) := PE.imp pe_str fun σ H Q ⟨env, L, al, T, c, h⟩ => gok c.rel h (.d (.str x))
/-- a module's constant that is an int or a text -/
theorem se_globI {x : Str} {i : Int} {t : Tok} {pos : Pos} (hg : Gl X x) (hm : X.mg x = some (.int i t)) (hd : (x == ("__debug__" : Str)) = false := by decide) : SE X Wx (.Name x pos) (eC (.int i)) :=
  PE.imp (pe_glob (v := .int i) hg hm ⟨t, rfl⟩ hd) fun σ H Q ⟨env, L, al, T, c, h⟩ => gok c.rel h (.d (.int i))
theorem se_globS {x : Str} {i : Str} {t : Tok} {pos : Pos} (hg : Gl X x) (hm : X.mg x = some (.str i t)) (hd : (x == ("__debug__" : Str)) = false := by decide) : SE X Wx (.Name x pos) (eC (.str i)) :=
  PE.imp (pe_glob (v := .str i) hg hm ⟨t, rfl⟩ hd) fun σ H Q ⟨env, L, al, T, c, h⟩ => gok c.rel h (.d (.str i))

/-! ### operators, by values -/
abbrev Op2 := Va → Va → LH → Res Va
/-- the rule r asks no more than g gives -/
def Ok2 (X : Cx) (r : R2) (g : Op2) : Prop := ∀ (Wx : WX) (σ : St) (H : Hp) (al T : List Addr) (L : LH) (x y : V) (w u : Va) (Q : VK), Rel X.K X.mg H al T L → RV X (mask H (al ++ T)) al x w → RV X (mask H (al ++ T)) al y u →
  GPost X Wx σ H al T L (RV X) (g w u L) Q → r x y H Q
def eOp (g : Op2) (a b : EF) : EF := fun env L => (a env L).bind fun w L1 => (b env L1).bind fun u L2 => g w u L2
variable {a b c : Expr} {fa fb fc : EF} {pos : Pos}
theorem op_core {g : Op2} {r : R2} (o : Ok2 X r g) {σ : St} {H : Hp} {Q : VK} (h : Rdg X Wx (RV X) (eOp g fa fb) σ H Q) : tOp r (Rdg X Wx (RV X) fa) (Rdg X Wx (RV X) fb) σ H Q := by
  obtain ⟨env, L, al, T, c, h⟩ := h
  obtain ⟨env', L', al', T', c', h'⟩ := rbind (R := RV X) c h
  refine ⟨env', L', al', T', c', ?_⟩
  revert h'
  generalize fa env' L' = r1
  intro h'
  cases r1 with
  | stuck => exact h'
  | exc c f L1 => exact h'
  | ok w L1 =>
    intro v H1 al1 s1 q1
    obtain ⟨w2, L2, al2, c2, s2, q2, h2⟩ := h' v H1 al1 s1 q1
    obtain ⟨env3, L3, al3, T3, c3, h3⟩ := rbind (R := RV X) c2 h2
    refine ⟨env3, L3, al3, T3, c3, ?_⟩
    revert h3
    generalize fb env3 L3 = r2
    intro h3
    cases r2 with
    | stuck => exact h3
    | exc c f L4 => exact h3
    | ok u L4 =>
      intro v2 H4 al4 s4 q4
      obtain ⟨u5, L5, al5, c5, s5, q5, h5⟩ := h3 v2 H4 al4 s4 q4
      exact o Wx σ H4 al5 T L5 v v2 w2 u5 Q c5.rel (s5.rp q2) q5 h5
theorem se_op {op : Operator} {r : R2} {g : Op2} (ho : OpR X (binaryOp op) r) (o : Ok2 X r g) (ha : SE X Wx a fa) (hb : SE X Wx b fb) : SE X Wx (.BinOp a op b pos) (eOp g fa fb) :=
  PE.imp (pe_op ho ha hb) fun _ _ _ h => op_core o h
theorem se_cmp {op : CmpOp} {r : R2} {g : Op2} (ho : OpR X (compareOp op) r) (o : Ok2 X r g) (ha : SE X Wx a fa) (hb : SE X Wx b fb) (hm : behindInMarks op b = false) : SE X Wx (.Compare a [op] [b] pos) (eOp g fa fb) :=
  PE.imp (pe_cmpR ho ha hb hm) fun _ _ _ h => op_core o h
theorem Ok2.or {r r' : R2} {g : Op2} (h : ∀ (Wx : WX) (σ : St) (H : Hp) (al T : List Addr) (L : LH) (x y : V) (w u : Va) (Q : VK), Rel X.K X.mg H al T L → RV X (mask H (al ++ T)) al x w → RV X (mask H (al ++ T)) al y u →
  GPost X Wx σ H al T L (RV X) (g w u L) Q → r x y H Q ∨ r' x y H Q) : Ok2 X (fun x y H Q => r x y H Q ∨ r' x y H Q) g := h

/-! ### tests -/
/-- a value that is a bool, as a test -/
def tVal (f : EF) : En → LH → Res Bool := fun env L => (f env L).bind fun w L1 => match w with
  | .d (.bool b) => .ok b L1
  | _ => .stuck
theorem val_core {f : EF} {σ : St} {H : Hp} {Q : Bool → Hp → Prop} (h : Rdg X Wx RB (tVal f) σ H Q) : tB (Rdg X Wx (RV X) f) σ H Q := by
  obtain ⟨env, L, al, T, c, h⟩ := h
  obtain ⟨env', L', al', T', c', h'⟩ := rbind (R := RV X) c h
  refine ⟨env', L', al', T', c', ?_⟩
  revert h'
  generalize f env' L' = r1
  intro h'
  cases r1 with
  | stuck => exact h'
  | exc c f L1 => exact h'
  | ok w L1 =>
    intro v H1 al1 s1 q1
    obtain ⟨w2, L2, al2, c2, s2, q2, h2⟩ := h' v H1 al1 s1 q1
    match w2, q2, h2 with
    | .d (.bool b), .d (.bl _), h2 => exact ⟨b, rfl, gok c2.rel h2 rfl⟩
    | .d .none, _, h2 => exact h2.elim
    | .d (.int _), _, h2 => exact h2.elim
    | .d (.str _), _, h2 => exact h2.elim
    | .d (.list _), _, h2 => exact h2.elim
    | .d (.tuple _), _, h2 => exact h2.elim
    | .d (.dict _), _, h2 => exact h2.elim
    | .loc _, _, h2 => exact h2.elim
    | .tup _, _, h2 => exact h2.elim
    | .dct _, _, h2 => exact h2.elim
    | .exc _ _, _, h2 => exact h2.elim
    | .scr _, _, h2 => exact h2.elim
theorem st_val (ha : SE X Wx a fa) (he : ∀ whole, isTrue a X.env whole = (do let v ← whole; standAt a.pos; holding [v] (truthy v)) := by intro _; rfl) : ST X Wx a (tVal fa) :=
  PT.imp (pt_val ha he) fun _ _ _ h => val_core h
theorem st_cmp {op : CmpOp} {r : R2} {g : Op2} (ho : OpR X (compareOp op) r) (o : Ok2 X r g) (ha : SE X Wx a fa) (hb : SE X Wx b fb) (hm : behindInMarks op b = false) : ST X Wx (.Compare a [op] [b] pos) (tVal (eOp g fa fb)) :=
  PT.imp (pt_cmpR ho ha hb hm) fun σ H Q h => by
    have := val_core h
    obtain ⟨env, L, al, T, c, k⟩ := this
    exact op_core o ⟨env, L, al, T, c, k⟩
variable {ta tb : En → LH → Res Bool} {rest : List Expr}
def tAndF (f g : En → LH → Res Bool) : En → LH → Res Bool := fun env L => (f env L).bind fun b L1 => if b then g env L1 else .ok false L1
def tOrF (f g : En → LH → Res Bool) : En → LH → Res Bool := fun env L => (f env L).bind fun b L1 => if b then .ok true L1 else g env L1
def tNotF (f : En → LH → Res Bool) : En → LH → Res Bool := fun env L => (f env L).bind fun b L1 => .ok (!b) L1
/-- one part, then by its bool -/
theorem two_core {f : En → LH → Res Bool} {k : Bool → LH → Res α} {σ : St} {H : Hp} {Q : β → Hp → Prop} {Q' : Bool → Hp → Prop} {env : En} {L : LH} {al T : List Addr} (c : Conf X.K X.mg σ H env L al T)
    (h : GPost X Wx σ H al T L R ((f env L).bind k) Q) (hk : ∀ b H1 L1 al1, Conf X.K X.mg σ H1 env L1 al1 T → GPost X Wx σ H1 al1 T L1 R (k b L1) Q → Q' b H1) : Rdg X Wx RB f σ H Q' := by
  refine ⟨env, L, al, T, c, ?_⟩
  have g := gbind (R := RB) c.rel.len h
  revert g
  generalize f env L = r
  intro g
  cases r with
  | stuck => exact g
  | exc c f L1 => exact g
  | ok b L1 =>
    intro b' H1 al1 s1 q1
    obtain ⟨a, L2, al2, s2, q2, g2⟩ := g b' H1 al1 s1 q1
    cases (show b' = a from q2)
    exact hk b' H1 L2 al2 (c.stp s2) g2
theorem sw_and1 (ha : ST X Wx a ta) : SW X Wx (.BoolOp .And [a] pos) ta := pw_and1 ha
theorem sw_or1 (ha : ST X Wx a ta) : SW X Wx (.BoolOp .Or [a] pos) ta := pw_or1 ha
theorem sw_and (ha : ST X Wx a ta) (hb : SW X Wx (.BoolOp .And (b :: rest) pos) tb) : SW X Wx (.BoolOp .And (a :: b :: rest) pos) (tAndF ta tb) :=
  PW.imp (pw_and ha hb) fun σ H Q ⟨env, L, al, T, c, h⟩ => two_core c h fun b H1 L1 al1 c1 g => by
    cases b with
    | true => exact ⟨env, L1, al1, T, c1, g⟩
    | false => exact gok c1.rel g rfl
theorem sw_or (ha : ST X Wx a ta) (hb : SW X Wx (.BoolOp .Or (b :: rest) pos) tb) : SW X Wx (.BoolOp .Or (a :: b :: rest) pos) (tOrF ta tb) :=
  PW.imp (pw_or ha hb) fun σ H Q ⟨env, L, al, T, c, h⟩ => two_core c h fun b H1 L1 al1 c1 g => by
    cases b with
    | false => exact ⟨env, L1, al1, T, c1, g⟩
    | true => exact gok c1.rel g rfl
theorem st_w (h : SW X Wx a ta) : ST X Wx a ta := PW.pt h
theorem st_not (ha : ST X Wx a ta) : ST X Wx (.UnaryOp .Not a pos) (tNotF ta) :=
  PT.imp (pt_not ha) fun σ H Q ⟨env, L, al, T, c, h⟩ => two_core c h fun b H1 L1 al1 c1 g => gok c1.rel g rfl
/-- a test's bool as a value -/
def eIf (t : En → LH → Res Bool) (f g : EF) : EF := fun env L => (t env L).bind fun b L1 => if b then f env L1 else g env L1
theorem se_ifExp (hc : ST X Wx c tb) (ha : SE X Wx a fa) (hb : SE X Wx b fb) : SE X Wx (.IfExp c a b pos) (eIf tb fa fb) :=
  PE.imp (pe_ifExp hc ha hb) fun σ H Q ⟨env, L, al, T, c, h⟩ => two_core c h fun b H1 L1 al1 c1 g => by
    cases b with
    | false => exact ⟨env, L1, al1, T, c1, g⟩
    | true => exact ⟨env, L1, al1, T, c1, g⟩
/-- and, or, not of bools as values -/
def eAnd (f g : EF) : EF := fun env L => (tVal f env L).bind fun b L1 => if b then g env L1 else .ok (.d (.bool false)) L1
def eOr (f g : EF) : EF := fun env L => (tVal f env L).bind fun b L1 => if b then .ok (.d (.bool true)) L1 else g env L1
def eNot (f : EF) : EF := fun env L => (tVal f env L).bind fun b L1 => .ok (.d (.bool (!b))) L1
theorem se_one {op : BoolOp} (h : SE X Wx a fa) : SE X Wx (.BoolOp op [a] pos) fa := pe_one h
theorem valc {f : EF} {k : Bool → LH → Res α} {σ : St} {H : Hp} {Q : β → Hp → Prop} {Q' : Bool → Hp → Prop} {env : En} {L : LH} {al T : List Addr} (c : Conf X.K X.mg σ H env L al T)
    (h : GPost X Wx σ H al T L R ((tVal f env L).bind k) Q) (hk : ∀ b H1 L1 al1, Conf X.K X.mg σ H1 env L1 al1 T → GPost X Wx σ H1 al1 T L1 R (k b L1) Q → Q' b H1) : tB (Rdg X Wx (RV X) f) σ H Q' := val_core (two_core c h hk)
theorem se_and (ha : SE X Wx a fa) (hb : SE X Wx (.BoolOp .And (b :: rest) pos) fb) : SE X Wx (.BoolOp .And (a :: b :: rest) pos) (eAnd fa fb) :=
  PE.imp (pe_and ha hb) fun σ H Q ⟨env, L, al, T, c, h⟩ => by
    obtain ⟨env', L', al', T', c', h'⟩ := valc (Q' := fun b H1 => if b = true then Rdg X Wx (RV X) fb σ H1 Q else Q (.bl false) H1) c h fun b H1 L1 al1 c1 g => by
      cases b with
      | true => exact ⟨env, L1, al1, T, c1, g⟩
      | false => exact gok c1.rel g (.d (.bl false))
    exact ⟨env', L', al', T', c', h'⟩
theorem se_or (ha : SE X Wx a fa) (hb : SE X Wx (.BoolOp .Or (b :: rest) pos) fb) : SE X Wx (.BoolOp .Or (a :: b :: rest) pos) (eOr fa fb) :=
  PE.imp (pe_or ha hb) fun σ H Q ⟨env, L, al, T, c, h⟩ => by
    obtain ⟨env', L', al', T', c', h'⟩ := valc (Q' := fun b H1 => if b = true then Q (.bl true) H1 else Rdg X Wx (RV X) fb σ H1 Q) c h fun b H1 L1 al1 c1 g => by
      cases b with
      | false => exact ⟨env, L1, al1, T, c1, g⟩
      | true => exact gok c1.rel g (.d (.bl true))
    exact ⟨env', L', al', T', c', h'⟩
theorem se_not (ha : SE X Wx a fa) : SE X Wx (.UnaryOp .Not a pos) (eNot fa) :=
  PE.imp (pe_not ha) fun σ H Q ⟨env, L, al, T, c, h⟩ => by
    obtain ⟨env', L', al', T', c', h'⟩ := valc (Q' := fun b H1 => Q (.bl (!b)) H1) c h fun b H1 L1 al1 c1 g => gok c1.rel g (.d (.bl (!b)))
    exact ⟨env', L', al', T', c', h'⟩
/-! ### argument lists -/
def aNil : En → LH → Res (List Va) := fun _ L => .ok [] L
def aCons (f : EF) (g : En → LH → Res (List Va)) : En → LH → Res (List Va) := fun env L => (f env L).bind fun w L1 => (g env L1).bind fun ws L2 => .ok (w :: ws) L2
theorem sa_nil : SA X Wx [] aNil := PA.imp pa_nil fun σ H Q ⟨env, L, al, T, c, h⟩ => gok c.rel h .nil
theorem sa_cons {e : Expr} {es : List Expr} {fe : EF} {fs : En → LH → Res (List Va)} (ha : SE X Wx e fe) (hr : SA X Wx es fs) (hs : starEach (e :: es) X.env = (false, eval e X.env) :: starEach es X.env := by rfl) : SA X Wx (e :: es) (aCons fe fs) := by
  refine PA.imp (pa_cons ha hr hs) ?_
  rintro σ H Q ⟨env, L, al, T, c, h⟩
  obtain ⟨env', L', al', T', c', h'⟩ := rbind (R := RV X) c h
  refine ⟨env', L', al', T', c', ?_⟩
  revert h'
  generalize fe env' L' = r1
  intro h'
  cases r1 with
  | stuck => exact h'
  | exc c f L1 => exact h'
  | ok w L1 =>
    intro v H1 al1 s1 q1
    obtain ⟨w2, L2, al2, c2, s2, q2, h2⟩ := h' v H1 al1 s1 q1
    obtain ⟨env3, L3, al3, T3, c3, h3⟩ := rbind (R := RVs X) c2 h2
    refine ⟨env3, L3, al3, T3, c3, ?_⟩
    revert h3
    generalize fs env3 L3 = r2
    intro h3
    cases r2 with
    | stuck => exact h3
    | exc c f L4 => exact h3
    | ok u L4 =>
      intro v2 H4 al4 s4 q4
      obtain ⟨u5, L5, al5, c5, s5, q5, h5⟩ := h3 v2 H4 al4 s4 q4
      exact gok c5.rel h5 (.cons (s5.rp q2) q5)
end
end L2.HW
namespace L2.HW
open PySem PySem.Spec PyProof.Rows
/-- one part is run, then what follows -/
theorem rseq {X : Cx} {Wx : WX} {σ : St} {H : Hp} {al T : List Addr} {L : LH} {α β γ δ : Type} {R : Hp → List Addr → β → α → Prop} {S : Hp → List Addr → δ → γ → Prop} {env : En} {f : En → LH → Res α} {k : α → LH → Res γ} {Q : δ → Hp → Prop} {Q' : β → Hp → Prop}
    (c : Conf X.K X.mg σ H env L al T) (h : GPost X Wx σ H al T L S ((f env L).bind k) Q)
    (hk : ∀ b H1 a L1 al1, Conf X.K X.mg σ H1 env L1 al1 T → Stp X.K X.mg H al T L H1 al1 T L1 → R (mask H1 (al1 ++ T)) al1 b a → GPost X Wx σ H1 al1 T L1 S (k a L1) Q → Q' b H1) : Rdg X Wx R f σ H Q' := by
  refine ⟨env, L, al, T, c, ?_⟩
  have g := gbind (R := R) c.rel.len h
  revert g
  generalize f env L = r
  intro g
  cases r with
  | stuck => exact g
  | exc c f L1 => exact g
  | ok b L1 =>
    intro b' H1 al1 s1 q1
    obtain ⟨a, L2, al2, s2, q2, g2⟩ := g b' H1 al1 s1 q1
    exact hk b' H1 a L2 al2 (c.stp s2) s2 q2 g2
/-! ### new objects -/
section
variable {K : PySem.W.Frag} {mg : Str → Option Value} {H : Hp} {al T : List Addr} {L : LH} {p : Addr} {o : HO}
theorem mask_eq {H : Hp} {P P' : List Addr} (h : ∀ b, b ∈ P ↔ b ∈ P') : mask H P = mask H P' := by
  funext b
  unfold mask
  by_cases q : b ∈ P
  · rw [if_pos q, if_pos ((h b).mp q)]
  · rw [if_neg q, if_neg fun z => q ((h b).mpr z)]
theorem Rel.fresh (r : Rel K mg H al T L) (hp : H p = none) : p ∉ al ∧ p ∉ T := ⟨fun z => r.trk p (.inl z) hp, fun z => r.trk p (.inr z) hp⟩
theorem upd_of {b : Addr} {u : HO} (hp : H p = none) (e : H b = some u) : upd H p o b = some u := by
  rw [upd_ne (ne_of_none e hp)]; exact e
theorem mask_upd (hp : H p = none) (P : List Addr) : Le (mask H P) (mask (upd H p o) P) := fun b u e => by
  obtain ⟨n, e⟩ := of_mask e
  exact mask_of n (upd_of hp e)
/-- a new object, at once data -/
theorem Rel.alloc (r : Rel K mg H al T L) (hp : H p = none) : Stp K mg H al T L (upd H p o) al T L := by
  refine ⟨⟨r.len, r.nd, r.dis, fun a h => ?_, fun n ob e => ?_⟩, ⟨[], by simp, fun _ z => nomatch z⟩, ⟨[], by simp, fun _ z => nomatch z⟩, fun b u e _ => upd_of hp e, fun b e => ?_, fun _ e => e, fun _ ob e => ⟨ob, e⟩⟩
  · have := r.trk a h
    intro z
    apply this
    cases q : H a with
    | none => rfl
    | some u => rw [upd_of hp q] at z; cases z
  · obtain ⟨a, e1, q⟩ := r.cell n ob e
    exact ⟨a, e1, ObR.le (mask_upd hp _) (ALe.refl _) (fun _ z => upd_of hp z) q⟩
  · intro z
    apply e
    cases q : H b with
    | none => rfl
    | some u => rw [upd_of hp q] at z; cases z
/-- a new object, held -/
theorem Rel.allocT (r : Rel K mg H al T L) (hp : H p = none) : Stp K mg H al T L (upd H p o) al (p :: T) L := by
  have s := r.alloc (o := o) hp
  obtain ⟨n1, n2⟩ := r.fresh hp
  have m : Le (mask H (al ++ T)) (mask (upd H p o) (al ++ (p :: T))) := fun b u e => by
    obtain ⟨n, e⟩ := of_mask e
    refine mask_of (fun z => ?_) (upd_of hp e)
    simp only [List.mem_append, List.mem_cons] at z n
    rcases z with z | z | z
    · exact n (.inl z)
    · rw [z, hp] at e; cases e
    · exact n (.inr z)
  refine ⟨⟨r.len, r.nd, fun a h z => ?_, fun a h => ?_, fun n ob e => ?_⟩, s.ext, ⟨[p], rfl, fun b z => ?_⟩, s.frame, s.stay, s.lck, s.alv⟩
  · rcases List.mem_cons.mp z with z | z
    · exact n1 (z ▸ h)
    · exact r.dis a h z
  · rcases h with h | h
    · exact s.rel.trk a (.inl h)
    · rcases List.mem_cons.mp h with z | z
      · rw [z, upd_same]; simp
      · exact s.rel.trk a (.inr z)
  · obtain ⟨a, e1, q⟩ := r.cell n ob e
    exact ⟨a, e1, ObR.le m (ALe.refl _) (fun _ z => upd_of hp z) q⟩
  · have : b = p := by simpa using z
    rw [this]; exact hp
/-- what is held becomes a cell -/
theorem Stp.cell {H' : Hp} {al' : List Addr} {L' : LH} {a : Addr} {ob : Ob} (r0 : Rel K mg H al T L) (ha : H a = none) (s : Stp K mg H al T L H' al' (a :: T) L') (q : ObR K mg (mask H' (al' ++ (a :: T))) al' H' a ob) :
    Stp K mg H al T L H' (al' ++ [a]) T (L' ++ [some ob]) := by
  have r := s.rel
  have m : mask H' (al' ++ (a :: T)) = mask H' ((al' ++ [a]) ++ T) := mask_eq fun b => by simp [or_assoc]
  have na : a ∉ al' := fun z => r.dis a z List.mem_cons_self
  obtain ⟨be, e1, f1⟩ := s.ext
  have hL : L.length ≤ L'.length ∨ al.length ≠ L.length := by
    have := r.len
    rw [e1, List.length_append] at this
    by_cases q : al.length = L.length
    · left; omega
    · exact .inr q
  have keep : ∀ (n : Nat) (c : Option Ob), L'[n]? = some c → (L' ++ [some ob])[n]? = some c := fun n c e => by
    obtain ⟨h, _⟩ := List.getElem?_eq_some_iff.mp e
    rw [List.getElem?_append_left h]; exact e
  refine ⟨⟨by simp [r.len], ?_, fun b h z => ?_, fun b h => ?_, fun n c e => ?_⟩, ⟨be ++ [a], by rw [e1, List.append_assoc], fun b h => ?_⟩, ⟨[], by simp, fun _ z => nomatch z⟩, s.frame, s.stay, fun n e => keep _ _ (s.lck n e), fun n c e => ?_⟩
  · rw [List.nodup_append]
    exact ⟨r.nd, by simp, fun x hx y hy => by have : y = a := by simpa using hy
                                              rw [this]; rintro rfl; exact na hx⟩
  · rcases List.mem_append.mp h with h | h
    · exact r.dis b h (List.mem_cons_of_mem _ z)
    · have : b = a := by simpa using h
      subst this
      exact (r0.fresh ha).2 z
  · rcases h with h | h
    · rcases List.mem_append.mp h with h | h
      · exact r.trk b (.inl h)
      · have : b = a := by simpa using h
        rw [this]; exact r.trk a (.inr List.mem_cons_self)
    · exact r.trk b (.inr (List.mem_cons_of_mem _ h))
  · rw [← m]
    by_cases hn : n < L'.length
    · rw [List.getElem?_append_left hn] at e
      obtain ⟨b, e2, q2⟩ := r.cell n c e
      exact ⟨b, by rw [List.getElem?_append_left (by rw [r.len]; exact hn)]; exact e2, ObR.le (Le.refl _) (ALe.app _ _) (fun _ z => z) q2⟩
    · rw [List.getElem?_append_right (by omega)] at e
      have h0 : n - L'.length = 0 := by
        by_cases z : n - L'.length = 0
        · exact z
        · rw [List.getElem?_eq_none (by simp; omega)] at e; cases e
      rw [h0] at e
      simp at e
      subst e
      refine ⟨a, by rw [List.getElem?_append_right (by rw [r.len]; omega), r.len, h0]; rfl, ObR.le (Le.refl _) (ALe.app _ _) (fun _ z => z) q⟩
  · rcases List.mem_append.mp h with h | h
    · exact f1 b h
    · have : b = a := by simpa using h
      rw [this]; exact ha
  · obtain ⟨c', e'⟩ := s.alv n c e
    exact ⟨c', keep _ _ e'⟩
end
end L2.HW
/-! SemD: data read through cells; operators; fresh lists. -/
namespace L2.HW
open PySem PySem.Spec PyProof.Rows

def datas : List Va → Option (List PyData)
  | [] => some []
  | .d x :: r => (datas r).map (x :: ·)
  | _ :: _ => none
@[simp] theorem datas_nil : datas [] = some [] := (rfl)
@[simp] theorem datas_cons (x : PyData) (r : List Va) : datas (.d x :: r) = (datas r).map (x :: ·) := (rfl)
@[simp] theorem datas_map (xs : List PyData) : datas (xs.map Va.d) = some xs := by
  induction xs with
  | nil => rfl
  | cons x r ih => rw [List.map_cons, datas_cons, ih]; rfl
@[simp] theorem datas_app (xs : List PyData) (ws : List Va) : datas (xs.map Va.d ++ ws) = (datas ws).map (xs ++ ·) := by
  induction xs with
  | nil => simp
  | cons x r ih => rw [List.map_cons, List.cons_append, datas_cons, ih]; cases datas ws <;> simp
theorem datas_eq : ∀ {ws : List Va} {xs : List PyData}, datas ws = some xs → ws = xs.map Va.d
  | [], xs, h => by cases h; rfl
  | .d x :: r, xs, h => by
    rw [datas_cons] at h
    cases e : datas r with
    | none => rw [e] at h; cases h
    | some ys => rw [e] at h; cases h; rw [datas_eq e]; rfl
  | .loc _ :: _, _, h => by cases h
  | .tup _ :: _, _, h => by cases h
  | .dct _ :: _, _, h => by cases h
  | .exc _ _ :: _, _, h => by cases h
  | .scr _ :: _, _, h => by cases h
/-- the data that a value is, or that a list's cell holds -/
def Va.data (L : LH) : Va → Option PyData
  | .d x => some x
  | .loc n => match L[n]? with
    | some (some (.lst ws)) => (datas ws).map .list
    | _ => none
  | _ => none
@[simp] theorem data_d (L : LH) (x : PyData) : (Va.d x).data L = some x := (rfl)
/-- the items of a list, a tuple -/
def Va.seq (L : LH) : Va → Option (List Va)
  | .d (.list ds) => some (ds.map .d)
  | .d (.tuple ds) => some (ds.map .d)
  | .tup ws => some ws
  | .loc n => match L[n]? with
    | some (some (.lst ws)) => some ws
    | _ => none
  | .scr ns => some (ns.map fun i => .d (.int i))
  | _ => none
@[simp] theorem seq_list (L : LH) (ds : List PyData) : (Va.d (.list ds)).seq L = some (ds.map .d) := (rfl)
@[simp] theorem seq_tuple (L : LH) (ds : List PyData) : (Va.d (.tuple ds)).seq L = some (ds.map .d) := (rfl)
@[simp] theorem seq_tup (L : LH) (ws : List Va) : (Va.tup ws).seq L = some ws := (rfl)
section
variable {K : PySem.W.Frag} {mg : Str → Option Value} {H M : Hp} {al T : List Addr} {L : LH}
theorem dq_all : ∀ {vs : List V} {xs : List PyData}, Rps K mg M al vs (xs.map Va.d) → DqAll M vs xs
  | _, [], .nil => .nil
  | _, _ :: _, .cons (.d q) r => .cons q (dq_all r)
theorem all_dq : ∀ {vs : List V} {xs : List PyData}, DqAll M vs xs → Rps K mg M al vs (xs.map Va.d)
  | _, _, .nil => .nil
  | _, _, .cons q r => .cons (.d q) (all_dq r)
theorem loc_lst (r : Rel K mg H al T L) {n : Nat} {v : V} {ws : List Va} (q : Rp K mg (mask H (al ++ T)) al v (.loc n)) (e : L[n]? = some (some (.lst ws))) : ∃ a vs, v = .ref a ∧ al[n]? = some a ∧ H a = some (.lst vs) ∧ Rps K mg (mask H (al ++ T)) al vs ws := by
  cases q with
  | loc e1 =>
    obtain ⟨a, e2, vs, e3, e4⟩ := r.cell n _ e
    rw [e1] at e2; cases e2
    exact ⟨_, vs, rfl, e1, e3, e4⟩
theorem data_ok (r : Rel K mg H al T L) {v : V} {w : Va} {x : PyData} (q : Rp K mg (mask H (al ++ T)) al v w) (e : w.data L = some x) : Dq H v x := by
  cases w with
  | d y => cases e; cases q with | d q => exact Dq.le (mask_le _ _) q
  | loc n =>
    simp only [Va.data] at e
    split at e
    · rename_i ws e1
      obtain ⟨a, vs, rfl, _, e3, e4⟩ := loc_lst r q e1
      cases e5 : datas ws with
      | none => rw [e5] at e; cases e
      | some xs =>
        rw [e5] at e
        cases e
        rw [datas_eq e5] at e4
        exact .lst e3 (DqAll.le (mask_le _ _) (dq_all e4))
    · cases e
  | tup _ => cases e
  | dct _ => cases e
  | exc _ _ => cases e
  | scr _ => cases e
theorem seq_ok (r : Rel K mg H al T L) {v : V} {w : Va} {ws : List Va} (q : Rp K mg (mask H (al ++ T)) al v w) (e : w.seq L = some ws) : ∃ a vs, v = .ref a ∧ (SqL K H a vs ∨ SqT K H a vs) ∧ Rps K mg (mask H (al ++ T)) al vs ws := by
  cases w with
  | d y =>
    cases q with
    | d q =>
      cases q with
      | lst e1 e2 => cases e; exact ⟨_, _, rfl, .inl (SqL.of (of_mask e1).2), all_dq e2⟩
      | tup e1 e2 => cases e; exact ⟨_, _, rfl, .inr (SqT.of (of_mask e1).2), all_dq e2⟩
      | non => cases e
      | bl _ => cases e
      | int _ => cases e
      | str _ => cases e
  | loc n =>
    simp only [Va.seq] at e
    split at e
    · rename_i us e1
      cases e
      obtain ⟨a, vs, rfl, _, e3, e4⟩ := loc_lst r q e1
      exact ⟨a, vs, rfl, .inl (SqL.of e3), e4⟩
    · cases e
  | tup us =>
    cases e
    cases q with
    | tup e1 e2 => exact ⟨_, _, rfl, .inr (SqT.of (of_mask e1).2), e2⟩
  | dct _ => cases e
  | exc _ _ => cases e
  | scr ns =>
    cases e
    cases q with
    | scr e1 =>
      refine ⟨_, _, rfl, .inl (SqL.le (mask_le _ _) e1), ?_⟩
      have go : ∀ ns : List Int, Rps K mg (mask H (al ++ T)) al (ns.map V.int) (ns.map fun i => Va.d (.int i)) := fun ns => by
        induction ns with
        | nil => exact .nil
        | cons n r ih => exact .cons (.d (.int n)) ih
      exact go ns
end

/-! ### fresh objects -/
def FPost (X : Cx) (Wx : WX) (σ : St) (H : Hp) (al T : List Addr) (L : LH) (r : Res Ob) (Q : VK) : Prop :=
  match r with
  | .ok o L' => ∀ a H' al', H a = none → Stp X.K X.mg H al T L H' al' (a :: T) L' → ObR X.K X.mg (mask H' (al' ++ (a :: T))) al' H' a o → Q (.ref a) H'
  | .exc c f L' => ∀ cls d H' al', Stp X.K X.mg H al T L H' al' T L' → ExR X.mg (mask H' (al' ++ T)) c f cls d → Wx cls d σ H'
  | .stuck => False
def FRdg (X : Cx) (Wx : WX) (f : En → LH → Res Ob) : TE := fun σ H Q => ∃ env L al T, Conf X.K X.mg σ H env L al T ∧ FPost X Wx σ H al T L (f env L) Q
/-- an expression that makes a new list (dict): nobody else holds it -/
def SF (X : Cx) (Wx : WX) (e : Expr) (f : En → LH → Res Ob) : Prop := PE X e (FRdg X Wx f)
/-- it is never changed -/
def Ob.va : Ob → Option Va
  | .lst ws => (datas ws).map fun xs => .d (.list xs)
  | .di kvs => (datas (kvs.map (·.2))).map fun xs => .dct ((kvs.map (·.1)).zip xs)
  | _ => none
@[simp] theorem va_lst (xs : List PyData) : (Ob.lst (xs.map Va.d)).va = some (.d (.list xs)) := by simp [Ob.va]
def eDat (g : En → LH → Res Ob) : EF := fun env L => (g env L).bind fun o L1 => match o.va with
  | some w => .ok w L1
  | none => .stuck
def eNew (g : En → LH → Res Ob) : EF := fun env L => (g env L).bind fun o L1 => .ok (.loc L1.length) (L1 ++ [some o])
theorem va_ok {K : PySem.W.Frag} {mg : Str → Option Value} {H : Hp} {al P : List Addr} {a : Addr} (na : a ∉ P) {o : Ob} {w : Va} {M : Hp} (hM : Le M (mask H P)) (q : ObR K mg M al H a o) (e : o.va = some w) : Rp K mg (mask H P) al (.ref a) w := by
  cases o with
  | lst ws =>
    obtain ⟨vs, h1, h2⟩ := q
    simp only [Ob.va] at e
    cases e5 : datas ws with
    | none => rw [e5] at e; cases e
    | some xs =>
      rw [e5] at e
      cases e
      rw [datas_eq e5] at h2
      exact .d (.lst (mask_of na h1) (DqAll.le hM (dq_all h2)))
  | di kvs =>
    obtain ⟨ks, h1, h2⟩ := q
    simp only [Ob.va] at e
    cases e5 : datas (kvs.map (·.2)) with
    | none => rw [e5] at e; cases e
    | some xs =>
      rw [e5] at e
      cases e
      refine .dct (mask_of na h1) ?_
      have go : ∀ {ks : List (Key × V)} {kvs : List (Int × Va)} {xs : List PyData}, KRp K mg M al ks kvs → datas (kvs.map (·.2)) = some xs → KDp (mask H P) ks ((kvs.map (·.1)).zip xs) := by
        intro ks kvs xs h
        induction h generalizing xs with
        | nil => intro _; exact .nil
        | @cons p q ps qs h1 _ ih =>
          intro e
          obtain ⟨k, w⟩ := q
          obtain ⟨pk, pv⟩ := p
          have e0 := datas_eq e
          match xs, e0, e with
          | x :: xs, e0, e =>
            simp only [List.map_cons, List.cons.injEq] at e0
            obtain ⟨e1, e2⟩ := e0
            obtain ⟨h3, h4⟩ := h1
            have h4' : Rp K mg M al pv w := h4
            rw [show w = Va.d x from e1] at h4'
            cases h4' with
            | d q => exact .cons ⟨h3, Dq.le hM q⟩ (ih (by rw [e2]; simp))
      exact go h2 e5
  | dt _ => cases e
  | ins _ _ => cases e
theorem se_dat {X : Cx} {Wx : WX} {e : Expr} {g : En → LH → Res Ob} (h : SF X Wx e g) : SE X Wx e (eDat g) := by
  refine PE.imp h ?_
  rintro σ H Q ⟨env, L, al, T, c, q⟩
  refine ⟨env, L, al, T, c, ?_⟩
  unfold eDat at q
  revert q
  generalize g env L = r
  intro q
  cases r with
  | stuck => exact q
  | exc c f L1 => exact q
  | ok o L1 =>
    intro a H' al' ha s ob
    simp only [Res.bind_ok] at q
    cases e : o.va with
    | none => rw [e] at q; exact q.elim
    | some w =>
      rw [e] at q
      have r := s.rel
      have na : a ∉ al' ++ T := fun z => by
        rcases List.mem_append.mp z with z | z
        · exact r.dis a z List.mem_cons_self
        · exact (c.rel.fresh ha).2 z
      have m : Le (mask H' (al' ++ (a :: T))) (mask H' (al' ++ T)) := fun b u e => by
        obtain ⟨n, e⟩ := of_mask e
        exact mask_of (fun z => n (by simp only [List.mem_append, List.mem_cons] at z ⊢; exact z.imp id .inr)) e
      exact q _ H' al' (Stp.drop (te := [a]) (fun b hb => by have : b = a := by simpa using hb
                                                             rw [this]; exact ha) s) (va_ok na m ob e)
theorem se_new {X : Cx} {Wx : WX} {e : Expr} {g : En → LH → Res Ob} (h : SF X Wx e g) : SE X Wx e (eNew g) := by
  refine PE.imp h ?_
  rintro σ H Q ⟨env, L, al, T, c, q⟩
  refine ⟨env, L, al, T, c, ?_⟩
  unfold eNew at q
  revert q
  generalize g env L = r
  intro q
  cases r with
  | stuck => exact q
  | exc c f L1 => exact q
  | ok o L1 =>
    intro a H' al' ha s ob
    refine q _ H' (al' ++ [a]) (Stp.cell c.rel ha s ob) (.loc ?_)
    rw [← s.rel.len, List.getElem?_append_right (Nat.le_refl _), Nat.sub_self]
    rfl
/-- new data on the heap, a tuple -/
theorem gnew {X : Cx} {Wx : WX} {σ : St} {H : Hp} {al T : List Addr} {L : LH} {w : Va} {Q : VK} {o : HO} (r : Rel X.K X.mg H al T L) (h : GPost X Wx σ H al T L (RV X) (.ok w L) Q)
    (k : ∀ p, H p = none → (upd H p o) p = some o → Le (mask H (al ++ T)) (mask (upd H p o) (al ++ T)) → mask (upd H p o) (al ++ T) p = some o → RV X (mask (upd H p o) (al ++ T)) al (.ref p) w) : ∀ p, H p = none → Q (.ref p) (upd H p o) := fun p hp => by
  obtain ⟨n1, n2⟩ := r.fresh hp
  exact h _ _ al (r.alloc hp) (k p hp upd_same (mask_upd hp _) (mask_of (by simp [n1, n2]) upd_same))
/-- a new list, fresh -/
theorem fnew {X : Cx} {Wx : WX} {σ : St} {H : Hp} {al T : List Addr} {L : LH} {ob : Ob} {Q : VK} {o : HO} (r : Rel X.K X.mg H al T L) (h : FPost X Wx σ H al T L (.ok ob L) Q)
    (k : ∀ p, H p = none → (upd H p o) p = some o → Le (mask H (al ++ T)) (mask (upd H p o) (al ++ (p :: T))) → ObR X.K X.mg (mask (upd H p o) (al ++ (p :: T))) al (upd H p o) p ob) : ∀ p, H p = none → Q (.ref p) (upd H p o) := fun p hp => by
  have s := r.allocT (o := o) hp
  exact h p _ al hp s (k p hp upd_same s.le)
end L2.HW
/-! SemE: the operators' rules. -/
namespace L2.HW
open PySem PySem.Spec PyProof.Rows
section
variable {X : Cx}
/-- the items of a list (no tuple) -/
def Va.items (L : LH) : Va → Option (List Va)
  | .d (.list ds) => some (ds.map .d)
  | .loc n => match L[n]? with
    | some (some (.lst ws)) => some ws
    | _ => none
  | _ => none
@[simp] theorem items_list (L : LH) (ds : List PyData) : (Va.d (.list ds)).items L = some (ds.map .d) := (rfl)
theorem items_ok {K : PySem.W.Frag} {mg : Str → Option Value} {H : Hp} {al T : List Addr} {L : LH} (r : Rel K mg H al T L) {v : V} {w : Va} {ws : List Va} (q : Rp K mg (mask H (al ++ T)) al v w) (e : w.items L = some ws) :
    ∃ a vs, v = .ref a ∧ H a = some (.lst vs) ∧ Rps K mg (mask H (al ++ T)) al vs ws := by
  cases w with
  | d y =>
    cases q with
    | d q =>
      cases q with
      | lst e1 e2 => cases e; exact ⟨_, _, rfl, (of_mask e1).2, all_dq e2⟩
      | tup e1 e2 => cases e
      | non => cases e
      | bl _ => cases e
      | int _ => cases e
      | str _ => cases e
  | loc n =>
    simp only [Va.items] at e
    split at e
    · rename_i us e1
      cases e
      obtain ⟨a, vs, rfl, _, e3, e4⟩ := loc_lst r q e1
      exact ⟨a, vs, rfl, e3, e4⟩
    · cases e
  | tup us => cases e
  | dct _ => cases e
  | exc _ _ => cases e
  | scr ns => cases e
def opAdd : Op2 := fun w u L => match w, u with
  | .d (.int i), .d (.int j) => .ok (.d (.int (i + j))) L
  | .d (.str a), .d (.str b) => if a.length + b.length ≤ sizeLine then .ok (.d (.str (a ++ b))) L else .stuck
  | .d (.tuple xs), .d (.tuple ys) => if xs.length + ys.length ≤ sizeLine then .ok (.d (.tuple (xs ++ ys))) L else .stuck
  | w, u => match w.items L, u.items L with
    | some ws, some us => if ws.length + us.length ≤ sizeLine then match datas ws, datas us with
      | some xs, some ys => .ok (.d (.list (xs ++ ys))) L
      | _, _ => .stuck
      else .stuck
    | _, _ => .stuck
theorem dq_app {M : Hp} : ∀ {vs us : List V} {xs ys : List PyData}, DqAll M vs xs → DqAll M us ys → DqAll M (vs ++ us) (xs ++ ys)
  | _, _, _, _, .nil, h => h
  | _, _, _, _, .cons a b, h => .cons a (dq_app b h)
theorem dq_int {M : Hp} {v : V} {i : Int} (h : Dq M v (.int i)) : v = .int i := by cases h; rfl
theorem dq_str {M : Hp} {v : V} {i : Str} (h : Dq M v (.str i)) : v = .str i := by cases h; rfl
theorem dq_bl {M : Hp} {v : V} {i : Bool} (h : Dq M v (.bool i)) : v = .bl i := by cases h; rfl
theorem dq_non {M : Hp} {v : V} (h : Dq M v .none) : v = .non := by cases h; rfl
theorem dq_tup {M : Hp} {v : V} {xs : List PyData} (h : Dq M v (.tuple xs)) : ∃ a vs, v = .ref a ∧ M a = some (.tup vs) ∧ DqAll M vs xs := by cases h with | tup e q => exact ⟨_, _, rfl, e, q⟩
theorem dq_lst {M : Hp} {v : V} {xs : List PyData} (h : Dq M v (.list xs)) : ∃ a vs, v = .ref a ∧ M a = some (.lst vs) ∧ DqAll M vs xs := by cases h with | lst e q => exact ⟨_, _, rfl, e, q⟩
theorem rp_d {K : PySem.W.Frag} {mg : Str → Option Value} {M : Hp} {al : List Addr} {v : V} {x : PyData} (h : Rp K mg M al v (.d x)) : Dq M v x := by cases h with | d q => exact q
abbrev rAddI : R2 := rI0 fun i j => .int (i + j)
abbrev rAddS : R2 := fun x y H Q => ∃ i j, x = .str i ∧ y = .str j ∧ i.length + j.length ≤ sizeLine ∧ Q (.str (i ++ j)) H
theorem or_add : OpR X (binaryOp .Add) (fun x y H Q => rAddI x y H Q ∨ rAddS x y H Q ∨ rCatA X.K x y H Q ∨ rCat x y H Q) := op_add.or (op_add_str.or (op_catA.or op_cat))
theorem ok_add : Ok2 X (fun x y H Q => rAddI x y H Q ∨ rAddS x y H Q ∨ rCatA X.K x y H Q ∨ rCat x y H Q) opAdd := by
  intro Wx σ H al T L x y w u Q r q1 q2 h
  unfold opAdd at h
  split at h
  · rename_i i j
    have e1 := dq_int (rp_d q1)
    have e2 := dq_int (rp_d q2)
    exact .inl ⟨i, j, e1, e2, gok r h (.d (.int _))⟩
  · rename_i a b
    have e1 := dq_str (rp_d q1)
    have e2 := dq_str (rp_d q2)
    split at h
    · exact .inr (.inl ⟨a, b, e1, e2, by assumption, gok r h (.d (.str _))⟩)
    · exact h.elim
  · rename_i xs ys
    obtain ⟨a, vs, rfl, e1, d1⟩ := dq_tup (rp_d q1)
    obtain ⟨b, us, rfl, e2, d2⟩ := dq_tup (rp_d q2)
    split at h
    · rename_i hl
      have l1 := d1.len
      have l2 := d2.len
      refine .inr (.inr (.inl ⟨a, b, vs, us, rfl, rfl, SqT.of (of_mask e1).2, SqT.of (of_mask e2).2, by omega, fun z => ?_, fun _ z => ?_, fun _ _ => gnew r h fun p hp e m e' => ?_⟩))
      · subst z
        cases d1
        exact gok r h (.d (.tup e2 d2))
      · subst z
        cases d2
        rw [List.append_nil] at h
        exact gok r h (.d (.tup e1 d1))
      · exact .d (.tup e' (dq_app (DqAll.le m d1) (DqAll.le m d2)))
    · exact h.elim
  · split at h
    · rename_i ws us e1 e2
      obtain ⟨a, vs, rfl, f1, d1⟩ := items_ok r q1 e1
      obtain ⟨b, us, rfl, f2, d2⟩ := items_ok r q2 e2
      have l1 := Paired.length d1
      have l2 := Paired.length d2
      split at h
      · split at h
        · rename_i xs ys e3 e4
          rw [datas_eq e3] at d1
          rw [datas_eq e4] at d2
          have d3 := dq_app (dq_all d1) (dq_all d2)
          refine .inr (.inr (.inr ⟨a, b, vs, _, rfl, rfl, f1, f2, by omega, gnew r h fun p hp e m e' => .d (.lst e' (DqAll.le m d3))⟩))
        · exact h.elim
      · exact h.elim
    · exact h.elim
/-! ### ints -/
def opI (g : Int → Int → Int) : Op2 := fun w u L => match w, u with
  | .d (.int i), .d (.int j) => .ok (.d (.int (g i j))) L
  | _, _ => .stuck
theorem ok_I {g : Int → Int → Int} : Ok2 X (rI0 fun i j => .int (g i j)) (opI g) := by
  intro Wx σ H al T L x y w u Q r q1 q2 h
  unfold opI at h
  split at h
  · exact ⟨_, _, dq_int (rp_d q1), dq_int (rp_d q2), gok r h (.d (.int _))⟩
  · exact h.elim
def opIC (C : Int → Int → Bool) (g : Int → Int → Int) : Op2 := fun w u L => match w, u with
  | .d (.int i), .d (.int j) => if C i j then .ok (.d (.int (g i j))) L else .stuck
  | _, _ => .stuck
theorem ok_IC {C : Int → Int → Bool} {D : Int → Int → Prop} {g : Int → Int → Int} (hC : ∀ i j, C i j = true → D i j) : Ok2 X (rI D fun i j => .int (g i j)) (opIC C g) := by
  intro Wx σ H al T L x y w u Q r q1 q2 h
  unfold opIC at h
  split at h
  · split at h
    · exact ⟨_, _, dq_int (rp_d q1), dq_int (rp_d q2), hC _ _ (by assumption), gok r h (.d (.int _))⟩
    · exact h.elim
  · exact h.elim
abbrev opSub : Op2 := opI fun i j => i - j
theorem ok_sub : Ok2 X (rI0 fun i j => .int (i - j)) opSub := ok_I
/-- below 2^500000 each: as wide as is asked -/
def mulC (i j : Int) : Bool := decide (i.natAbs.log2 + j.natAbs.log2 < 1000000)
def divC (_ j : Int) : Bool := decide (0 < j ∧ j.natAbs.log2 < 9000)
def modC (_ j : Int) : Bool := decide (0 < j)
def powC (i j : Int) : Bool := decide (0 ≤ j ∧ j ≤ 1000000 ∧ i.natAbs < 18446744073709551616)
abbrev opDiv : Op2 := opIC divC fun i j => i / j
theorem ok_div : Ok2 X (rI CDivW fun i j => .int (i / j)) opDiv := ok_IC fun i j h => (of_decide_eq_true h : 0 < j ∧ j.natAbs.log2 < 9000)
abbrev opMod : Op2 := opIC modC fun i j => i % j
theorem ok_mod : Ok2 X (rI (fun _ j => 0 < j) fun i j => .int (i % j)) opMod := ok_IC fun i j h => of_decide_eq_true h
abbrev opPow : Op2 := opIC powC fun i j => i ^ j.toNat
theorem ok_pow : Ok2 X (rI CPow fun i j => .int (i ^ j.toNat)) opPow := ok_IC fun i j h => by
  have := of_decide_eq_true h
  exact ⟨this.1, this.2.1, by rw [show (2 : Nat) ^ 64 = 18446744073709551616 from rfl]; exact this.2.2⟩
def rep {α : Type} (k : Nat) (xs : List α) : List α := (List.replicate k xs).flatten
/-- ints; a list, a tuple as often as an int tells -/
def opMul : Op2 := fun w u L => match w, u with
  | .d (.int i), .d (.int j) => if mulC i j then .ok (.d (.int (i * j))) L else .stuck
  | .d (.tuple xs), .d (.int k) => if xs ≠ [] ∧ 2 ≤ k ∧ k ≤ 1000 ∧ xs.length ≤ 1000 then .ok (.d (.tuple (rep k.toNat xs))) L else .stuck
  | w, .d (.int k) => match w.items L with
    | some ws => if -(2 ^ 63) ≤ k ∧ k < 2 ^ 63 ∧ ws.length * k.toNat ≤ sizeLine then match datas ws with
      | some xs => .ok (.d (.list (rep k.toNat xs))) L
      | none => .stuck
      else .stuck
    | none => .stuck
  | _, _ => .stuck
theorem dq_rep {M : Hp} {vs : List V} {xs : List PyData} (h : DqAll M vs xs) : ∀ k : Nat, DqAll M (List.replicate k vs).flatten (List.replicate k xs).flatten
  | 0 => .nil
  | k + 1 => by rw [List.replicate_succ, List.replicate_succ, List.flatten_cons, List.flatten_cons]; exact dq_app h (dq_rep h k)
theorem or_mul : OpR X (binaryOp .Mult) (fun x y H Q => rI CMulW (fun i j => .int (i * j)) x y H Q ∨ rRepT X.K x y H Q ∨ rRep x y H Q) := op_mulW.or (op_repT.or op_rep)
theorem ok_mul : Ok2 X (fun x y H Q => rI CMulW (fun i j => .int (i * j)) x y H Q ∨ rRepT X.K x y H Q ∨ rRep x y H Q) opMul := by
  intro Wx σ H al T L x y w u Q r q1 q2 h
  unfold opMul at h
  split at h
  · split at h
    · rename_i hc
      exact .inl ⟨_, _, dq_int (rp_d q1), dq_int (rp_d q2), (of_decide_eq_true hc : _ < 1000000), gok r h (.d (.int _))⟩
    · exact h.elim
  · rename_i xs k
    obtain ⟨a, vs, rfl, e1, d1⟩ := dq_tup (rp_d q1)
    have e2 := dq_int (rp_d q2)
    split at h
    · rename_i hc
      have l1 := d1.len
      refine .inr (.inl ⟨a, k, vs, rfl, e2, SqT.of (of_mask e1).2, fun z => ?_, hc.2.1, hc.2.2.1, by omega, gnew r h fun p hp e m e' => .d (.tup e' (DqAll.le m (dq_rep d1 _)))⟩)
      subst z
      cases d1
      exact hc.1 rfl
    · exact h.elim
  · rename_i k _ _
    have e2 := dq_int (rp_d q2)
    split at h
    · rename_i ws e1
      obtain ⟨a, vs, rfl, f1, d1⟩ := items_ok r q1 e1
      have l1 := Paired.length d1
      split at h
      · rename_i hc
        split at h
        · rename_i xs e3
          rw [datas_eq e3] at d1
          exact .inr (.inr ⟨a, k, vs, rfl, e2, f1, hc.1, hc.2.1, by rw [l1]; exact hc.2.2, gnew r h fun p hp e m e' => .d (.lst e' (DqAll.le m (dq_rep (dq_all d1) _)))⟩)
        · exact h.elim
      · exact h.elim
    · exact h.elim
  · exact h.elim
/-! ### comparisons -/
def opC (g : Int → Int → Bool) : Op2 := fun w u L => match w, u with
  | .d (.int i), .d (.int j) => .ok (.d (.bool (g i j))) L
  | _, _ => .stuck
theorem ok_C {g : Int → Int → Bool} : Ok2 X (rI0 fun i j => .bl (g i j)) (opC g) := by
  intro Wx σ H al T L x y w u Q r q1 q2 h
  unfold opC at h
  split at h
  · exact ⟨_, _, dq_int (rp_d q1), dq_int (rp_d q2), gok r h (.d (.bl _))⟩
  · exact h.elim
abbrev opGt : Op2 := opC fun i j => decide (j < i)
abbrev opGe : Op2 := opC fun i j => decide (j ≤ i)
abbrev opLe : Op2 := opC fun i j => decide (i ≤ j)
theorem ok_gt : Ok2 X (rI0 fun i j => .bl (decide (j < i))) opGt := ok_C
theorem ok_ge : Ok2 X (rI0 fun i j => .bl (decide (j ≤ i))) opGe := ok_C
theorem ok_le : Ok2 X (rI0 fun i j => .bl (decide (i ≤ j))) opLe := ok_C
/-- ints of data -/
def intsOf : List PyData → Option (List Int)
  | [] => some []
  | .int i :: r => (intsOf r).map (i :: ·)
  | _ :: _ => none
theorem intsOf_eq : ∀ {xs : List PyData} {ns : List Int}, intsOf xs = some ns → xs = ns.map PyData.int
  | [], ns, h => by cases h; rfl
  | .int x :: r, ns, h => by
    simp only [intsOf] at h
    cases e : intsOf r with
    | none => rw [e] at h; cases h
    | some ys => rw [e] at h; cases h; rw [intsOf_eq e]; rfl
  | .none :: _, _, h => by cases h
  | .bool _ :: _, _, h => by cases h
  | .str _ :: _, _, h => by cases h
  | .list _ :: _, _, h => by cases h
  | .tuple _ :: _, _, h => by cases h
  | .dict _ :: _, _, h => by cases h
@[simp] theorem intsOf_map (ns : List Int) : intsOf (ns.map PyData.int) = some ns := by
  induction ns with
  | nil => rfl
  | cons x r ih => simp only [List.map_cons, intsOf, ih]; rfl
theorem dq_ints {M : Hp} : ∀ {vs : List V} {ns : List Int}, DqAll M vs (ns.map PyData.int) → vs = ns.map V.int
  | _, [], .nil => rfl
  | _, _ :: _, .cons q r => by rw [dq_int q, dq_ints r]; rfl
/-- < of ints, of tuples of ints -/
def opLt : Op2 := fun w u L => match w, u with
  | .d (.int i), .d (.int j) => .ok (.d (.bool (decide (i < j)))) L
  | .d (.tuple xs), .d (.tuple ys) => match intsOf xs, intsOf ys with
    | some ns, some ms => .ok (.d (.bool (HT.lexLt ns ms))) L
    | _, _ => .stuck
  | _, _ => .stuck
theorem or_lt (hu : X.A.units < cLine) : OpR X (compareOp .Lt) (fun x y H Q => rI0 (fun i j => .bl (decide (i < j))) x y H Q ∨ rLtT X.K x y H Q) := op_lt.or (op_ltT hu)
theorem ok_lt : Ok2 X (fun x y H Q => rI0 (fun i j => .bl (decide (i < j))) x y H Q ∨ rLtT X.K x y H Q) opLt := by
  intro Wx σ H al T L x y w u Q r q1 q2 h
  unfold opLt at h
  split at h
  · exact .inl ⟨_, _, dq_int (rp_d q1), dq_int (rp_d q2), gok r h (.d (.bl _))⟩
  · split at h
    · rename_i ns ms e1 e2
      rw [intsOf_eq e1] at q1
      rw [intsOf_eq e2] at q2
      obtain ⟨a, vs, rfl, f1, d1⟩ := dq_tup (rp_d q1)
      obtain ⟨b, us, rfl, f2, d2⟩ := dq_tup (rp_d q2)
      have g1 := dq_ints d1
      have g2 := dq_ints d2
      subst g1
      subst g2
      exact .inr ⟨a, b, ns, ms, rfl, rfl, SqT.of (of_mask f1).2, SqT.of (of_mask f2).2, gok r h (.d (.bl _))⟩
    · exact h.elim
  · exact h.elim
/-- == of data -/
def twoStr : PyData → PyData → Bool
  | .str _, .str _ => true
  | _, _ => false
def cmpOk (x y : PyData) : Bool := twoStr x y || (SeqAt.shaped x && SeqAt.shaped y)
theorem twoStr_eq {x y : PyData} (h : twoStr x y = true) : ∃ a b, x = .str a ∧ y = .str b := by
  cases x <;> cases y <;> first | exact ⟨_, _, rfl, rfl⟩ | (simp [twoStr] at h)
def opEq : Op2 := fun w u L => match w.data L, u.data L with
  | some x, some y => if cmpOk x y then .ok (.d (.bool (PyData.eqv x y))) L else .stuck
  | _, _ => .stuck
def opNe : Op2 := fun w u L => match w.data L, u.data L with
  | some x, some y => if cmpOk x y then .ok (.d (.bool (!PyData.eqv x y))) L else .stuck
  | _, _ => .stuck
abbrev rEqAny (X : Cx) : R2 := fun x y H Q => rEq x y H Q ∨ rEqD X.K x y H Q
abbrev rNeAny (X : Cx) : R2 := fun x y H Q => rNe x y H Q ∨ rNeD X.K x y H Q
theorem or_eq (hu : X.A.units + 64 < cLine) : OpR X (compareOp .Eq) (rEqAny X) := op_eq.or (op_eqD hu)
theorem or_ne (hu : X.A.units + 64 < cLine) : OpR X (compareOp .NotEq) (rNeAny X) := op_ne.or (op_neD hu)
theorem ok_eq : Ok2 X (rEqAny X) opEq := by
  intro Wx σ H al T L x y w u Q r q1 q2 h
  unfold opEq at h
  split at h
  · split at h
    · rename_i e1 e2 hc
      unfold cmpOk at hc
      rw [Bool.or_eq_true, Bool.and_eq_true] at hc
      rcases hc with hc | hc
      · obtain ⟨a, b, rfl, rfl⟩ := twoStr_eq hc
        have h1 := dq_str (data_ok r q1 e1)
        have h2 := dq_str (data_ok r q2 e2)
        subst h1 h2
        refine .inl ⟨rfl, gok r h ?_⟩
        have : decide (V.str a = V.str b) = PyData.eqv (.str a) (.str b) := by
          rw [Bool.eq_iff_iff]
          simp [PyData.eqv]
        rw [this]
        exact .d (.bl _)
      · exact .inr ⟨_, _, (data_ok r q1 e1).dp, (data_ok r q2 e2).dp, hc.1, hc.2, gok r h (.d (.bl _))⟩
    · exact h.elim
  · exact h.elim
theorem ok_ne : Ok2 X (rNeAny X) opNe := by
  intro Wx σ H al T L x y w u Q r q1 q2 h
  unfold opNe at h
  split at h
  · split at h
    · rename_i e1 e2 hc
      unfold cmpOk at hc
      rw [Bool.or_eq_true, Bool.and_eq_true] at hc
      rcases hc with hc | hc
      · obtain ⟨a, b, rfl, rfl⟩ := twoStr_eq hc
        have h1 := dq_str (data_ok r q1 e1)
        have h2 := dq_str (data_ok r q2 e2)
        subst h1 h2
        refine .inl ⟨rfl, gok r h ?_⟩
        have : (!decide (V.str a = V.str b)) = !PyData.eqv (.str a) (.str b) := by
          congr 1
          rw [Bool.eq_iff_iff]
          simp [PyData.eqv]
        rw [this]
        exact .d (.bl _)
      · exact .inr ⟨_, _, (data_ok r q1 e1).dp, (data_ok r q2 e2).dp, hc.1, hc.2, gok r h (.d (.bl _))⟩
    · exact h.elim
  · exact h.elim
/-- is None, is True -/
def Va.isN : Va → Bool
  | .d .none => true
  | _ => false
def opIsN : Op2 := fun w u L => match u with
  | .d .none => .ok (.d (.bool w.isN)) L
  | _ => .stuck
def opNotN : Op2 := fun w u L => match u with
  | .d .none => .ok (.d (.bool (!w.isN))) L
  | _ => .stuck
theorem rp_non {K : PySem.W.Frag} {mg : Str → Option Value} {M : Hp} {al : List Addr} {v : V} {w : Va} (h : Rp K mg M al v w) : decide (v = .non) = w.isN := by
  cases h with
  | d q => cases q <;> simp [Va.isN]
  | loc _ => simp [Va.isN]
  | tup _ _ => simp [Va.isN]
  | dct _ _ => simp [Va.isN]
  | exc _ _ => simp [Va.isN]
  | scr _ => simp [Va.isN]
abbrev rIsNn : R2 := fun x y H Q => y = .non ∧ Q (.bl (decide (x = .non))) H
abbrev rNotNn : R2 := fun x y H Q => y = .non ∧ Q (.bl (!decide (x = .non))) H
theorem ok_isN : Ok2 X rIsNn opIsN := by
  intro Wx σ H al T L x y w u Q r q1 q2 h
  unfold opIsN at h
  split at h
  · refine ⟨dq_non (rp_d q2), ?_⟩
    rw [rp_non q1]
    exact gok r h (.d (.bl _))
  · exact h.elim
theorem ok_notN : Ok2 X rNotNn opNotN := by
  intro Wx σ H al T L x y w u Q r q1 q2 h
  unfold opNotN at h
  split at h
  · refine ⟨dq_non (rp_d q2), ?_⟩
    rw [rp_non q1]
    exact gok r h (.d (.bl _))
  · exact h.elim
def opIsB : Op2 := fun w u L => match w, u with
  | .d (.bool a), .d (.bool b) => .ok (.d (.bool (decide (a = b)))) L
  | _, _ => .stuck
def opNotB : Op2 := fun w u L => match w, u with
  | .d (.bool a), .d (.bool b) => .ok (.d (.bool (!decide (a = b)))) L
  | _, _ => .stuck
theorem ok_isB : Ok2 X rIsB opIsB := by
  intro Wx σ H al T L x y w u Q r q1 q2 h
  unfold opIsB at h
  split at h
  · exact ⟨_, _, dq_bl (rp_d q1), dq_bl (rp_d q2), gok r h (.d (.bl _))⟩
  · exact h.elim
theorem ok_notB : Ok2 X rNotB opNotB := by
  intro Wx σ H al T L x y w u Q r q1 q2 h
  unfold opNotB at h
  split at h
  · exact ⟨_, _, dq_bl (rp_d q1), dq_bl (rp_d q2), gok r h (.d (.bl _))⟩
  · exact h.elim
end
end L2.HW
/-! SemF: displays, items, slices, in. -/
namespace L2.HW
open PySem PySem.Spec PyProof.Rows
section
variable {X : Cx} {Wx : WX}
/-! ### displays -/
def mkTup (ws : List Va) : Va := match datas ws with
  | some xs => .d (.tuple xs)
  | none => .tup ws
@[simp] theorem mkTup_map (xs : List PyData) : mkTup (xs.map Va.d) = .d (.tuple xs) := by simp [mkTup]
@[simp] theorem mkTup_0 : mkTup [] = .d (.tuple []) := (rfl)
theorem rp_mkTup {K : PySem.W.Frag} {mg : Str → Option Value} {M : Hp} {al : List Addr} {a : Addr} {vs : List V} {ws : List Va} (e : M a = some (.tup vs)) (r : Rps K mg M al vs ws) : Rp K mg M al (.ref a) (mkTup ws) := by
  unfold mkTup
  split
  · rename_i xs h
    rw [datas_eq h] at r
    exact .d (.tup e (dq_all r))
  · exact .tup e r
def eTup (fs : En → LH → Res (List Va)) : EF := fun env L => (fs env L).bind fun ws L1 => if ws.length ≤ sizeLine then .ok (mkTup ws) L1 else .stuck
theorem se_tup {es : List Expr} {fs : En → LH → Res (List Va)} {k : Nat} {pos : Pos} (h : SA X Wx es fs) : SE X Wx (.Tuple es k pos) (eTup fs) := by
  refine PE.imp (pe_tup h) ?_
  rintro σ H Q ⟨env, L, al, T, c, q⟩
  refine rseq (R := RVs X) c q fun vs H1 ws L1 al1 c1 s1 r1 q1 => ?_
  split at q1
  · exact ⟨by rw [Paired.length r1]; assumption, gnew c1.rel q1 fun p hp e m e' => rp_mkTup e' (Rps.le m (ALe.refl _) r1)⟩
  · exact q1.elim
/-- a run, then a new list -/
theorem fseq {σ : St} {H : Hp} {al T : List Addr} {L : LH} {α β : Type} {R : Hp → List Addr → β → α → Prop} {env : En} {f : En → LH → Res α} {k : α → LH → Res Ob} {Q : VK} {Q' : β → Hp → Prop}
    (c : Conf X.K X.mg σ H env L al T) (h : FPost X Wx σ H al T L ((f env L).bind k) Q)
    (hk : ∀ b H1 a L1 al1, Conf X.K X.mg σ H1 env L1 al1 T → Stp X.K X.mg H al T L H1 al1 T L1 → R (mask H1 (al1 ++ T)) al1 b a → FPost X Wx σ H1 al1 T L1 (k a L1) Q → Q' b H1) : Rdg X Wx R f σ H Q' := by
  refine ⟨env, L, al, T, c, ?_⟩
  revert h
  generalize f env L = r
  intro g
  cases r with
  | stuck => exact g
  | exc c f L1 => exact g
  | ok b L1 =>
    intro b' H1 al1 s1 q1
    refine hk b' H1 b L1 al1 (c.stp s1) s1 q1 ?_
    simp only [Res.bind_ok] at g
    revert g
    generalize k b L1 = r2
    intro g
    have back : ∀ x, H1 x = none → H x = none := fun x z => by
      cases e : H x with
      | none => rfl
      | some o => exact absurd z (s1.stay x (by rw [e]; simp))
    cases r2 with
    | stuck => exact g
    | exc c' f L2 => exact fun cls d H' al' t q => g cls d H' al' (Stp.trans c.rel.len s1 t) q
    | ok o L2 => exact fun a H' al' ha t q => g a H' al' (back a ha) (Stp.trans c.rel.len s1 t) q
def fLst (fs : En → LH → Res (List Va)) : En → LH → Res Ob := fun env L => (fs env L).bind fun ws L1 => if ws.length ≤ sizeLine then .ok (.lst ws) L1 else .stuck
theorem sf_lst {es : List Expr} {fs : En → LH → Res (List Va)} {pos : Pos} (h : SA X Wx es fs) : SF X Wx (.List es pos) (fLst fs) := by
  refine PE.imp (pe_lst h) ?_
  rintro σ H Q ⟨env, L, al, T, c, q⟩
  refine fseq (R := RVs X) c q fun vs H1 ws L1 al1 c1 s1 r1 q1 => ?_
  split at q1
  · exact ⟨by rw [Paired.length r1]; assumption, fnew c1.rel q1 fun p hp e m => ⟨vs, e, Rps.le m (ALe.refl _) r1⟩⟩
  · exact q1.elim
def aStar (f : EF) (g : En → LH → Res (List Va)) : En → LH → Res (List Va) := fun env L => (f env L).bind fun w L1 => match w.seq L1 with
  | some us => (g env L1).bind fun ws L2 => .ok (us ++ ws) L2
  | none => .stuck
theorem rps_app {K : PySem.W.Frag} {mg : Str → Option Value} {M : Hp} {al : List Addr} : ∀ {vs us : List V} {xs ys : List Va}, Rps K mg M al vs xs → Rps K mg M al us ys → Rps K mg M al (vs ++ us) (xs ++ ys)
  | _, _, _, _, .nil, h => h
  | _, _, _, _, .cons a b, h => .cons a (rps_app b h)
theorem sa_star {e : Expr} {p : Pos} {es : List Expr} {fe : EF} {fs : En → LH → Res (List Va)} (ha : SE X Wx e fe) (hr : SA X Wx es fs) (hs : starEach (.Starred e p :: es) X.env = (true, eval e X.env) :: starEach es X.env := by rfl) : SA X Wx (.Starred e p :: es) (aStar fe fs) := by
  refine PA.imp (StX.pa_star ha hr hs) ?_
  rintro σ H Q ⟨env, L, al, T, c, q⟩
  refine rseq (R := RV X) c q fun v H1 w L1 al1 c1 s1 r1 q1 => ?_
  split at q1
  · rename_i us e
    obtain ⟨a, vs, rfl, hq, r2⟩ := seq_ok c1.rel r1 e
    refine ⟨a, vs, rfl, hq.symm, rseq (R := RVs X) c1 q1 fun vs2 H2 ws L2 al2 c2 s2 r3 q2 => ?_⟩
    exact gok c2.rel q2 (rps_app (s2.rps r2) r3)
  · exact q1.elim

/-! ### items -/
def alook {κ α : Type} [DecidableEq κ] (ks : List (κ × α)) (k : κ) : Option α := (ks.find? fun kv => decide (kv.1 = k)).map (·.2)
@[simp] theorem alook_nil {κ α : Type} [DecidableEq κ] (k : κ) : alook ([] : List (κ × α)) k = none := (rfl)
theorem alook_cons {κ α : Type} [DecidableEq κ] (k' : κ) (x : α) (ks : List (κ × α)) (k : κ) : alook ((k', x) :: ks) k = if k' = k then some x else alook ks k := by
  unfold alook
  rw [List.find?_cons]
  by_cases h : k' = k
  · simp [h]
  · simp [h]
def ORp {α : Type} (R : V → α → Prop) : Option V → Option α → Prop
  | some z, some x => R z x
  | none, none => True
  | _, _ => False
theorem look_pair {κ κ' α : Type} [DecidableEq κ] [DecidableEq κ'] {f : κ → κ'} (hf : ∀ a b, f a = f b → a = b) {R : V → α → Prop} {ks : List (κ' × V)} {as : List (κ × α)} (r : Paired (fun (p : κ' × V) (q : κ × α) => p.1 = f q.1 ∧ R p.2 q.2) ks as) (k : κ) : ORp R (valV ks (f k)) (alook as k) := by
  induction r with
  | nil => trivial
  | @cons p q ps qs h _ ih =>
    obtain ⟨pk, pv⟩ := p
    obtain ⟨qk, qv⟩ := q
    obtain ⟨h1, h2⟩ := h
    simp only at h1 h2
    subst h1
    rw [alook_cons]
    by_cases e : qk = k
    · subst e
      rw [if_pos rfl, valV_pos rfl]
      exact h2
    · rw [if_neg e, valV_neg (fun z => e (hf _ _ z))]
      exact ih
/-- what a dict holds at a key -/
def Va.dget (L : LH) (w u : Va) : Option (Option Va) := match w, u with
  | .dct ks, .d (.int i) => some ((alook ks i).map Va.d)
  | .loc n, .d (.int i) => match L[n]? with
    | some (some (.di ks)) => some (alook ks i)
    | _ => none
  | .loc n, .d (.tuple xs) => match L[n]?, intsOf xs with
    | some (some (.dt ks)), some ns => some (alook ks ns)
    | _, _ => none
  | _, _ => none
theorem inl_inj (a b : Int) (h : (Sum.inl a : Key) = Sum.inl b) : a = b := by cases h; rfl
theorem map_inl_inj : ∀ (a b : List Int), a.map (Sum.inl : Int → Key) = b.map Sum.inl → a = b
  | [], [], _ => rfl
  | [], _ :: _, h => by cases h
  | _ :: _, [], h => by cases h
  | x :: a, y :: b, h => by
    simp only [List.map_cons, List.cons.injEq] at h
    rw [inl_inj _ _ h.1, map_inl_inj a b h.2]
theorem dget_ok {K : PySem.W.Frag} {mg : Str → Option Value} {H : Hp} {al T : List Addr} {L : LH} (r : Rel K mg H al T L) {v y : V} {w u : Va} {o : Option Va} (q : Rp K mg (mask H (al ++ T)) al v w) (q2 : Rp K mg (mask H (al ++ T)) al y u) (e : w.dget L u = some o) :
    ∃ a ov, v = .ref a ∧ DGet H a y ov ∧ ORp (Rp K mg (mask H (al ++ T)) al) ov o := by
  unfold Va.dget at e
  split at e
  · rename_i ks i
    cases e
    have hy := dq_int (rp_d q2)
    subst hy
    cases q with
    | @dct a kvs _ e1 e2 =>
      have l := look_pair (f := (Sum.inl : Int → Key)) inl_inj e2 i
      refine ⟨a, valV kvs (Sum.inl i), rfl, DGet.k (k := Sum.inl i) (of_mask e1).2, ?_⟩
      revert l
      cases alook ks i <;> cases valV kvs (Sum.inl i) <;> intro l
      · trivial
      · exact l
      · exact l
      · exact .d l
  · rename_i n i
    split at e
    · rename_i ks e1
      cases e
      have hy := dq_int (rp_d q2)
      subst hy
      cases q with
      | @loc _ a e2 =>
        obtain ⟨a', e3, kvs, e4, e5⟩ := r.cell n _ e1
        rw [e2] at e3; cases e3
        exact ⟨a, valV kvs (Sum.inl i), rfl, DGet.k (k := Sum.inl i) e4, look_pair (f := (Sum.inl : Int → Key)) inl_inj e5 i⟩
    · cases e
  · rename_i n xs
    split at e
    · rename_i ks ns e1 e0
      cases e
      rw [intsOf_eq e0] at q2
      obtain ⟨b, us, rfl, f1, d1⟩ := dq_tup (rp_d q2)
      have g1 := dq_ints d1
      subst g1
      cases q with
      | @loc _ a e2 =>
        obtain ⟨a', e3, kvs, e4, e5⟩ := r.cell n _ e1
        rw [e2] at e3; cases e3
        exact ⟨a, valV kvs (ns.map Sum.inl), rfl, DGet.t (k := ns.map Sum.inl) e4 (by rw [List.map_map]; exact (of_mask f1).2), look_pair (f := fun ns : List Int => ns.map (Sum.inl : Int → Key)) map_inl_inj e5 ns⟩
    · cases e
  · cases e
theorem atI_pair {K : PySem.W.Frag} {mg : Str → Option Value} {M : Hp} {al : List Addr} {vs : List V} {ws : List Va} (r : Rps K mg M al vs ws) {i : Int} {x : Va} (e : atI ws i = some x) : ∃ z, atI vs i = some z ∧ Rp K mg M al z x := by
  unfold atI at e ⊢
  rw [Paired.length r]
  cases h : ixN ws.length i with
  | none => rw [h] at e; cases e
  | some j =>
    rw [h] at e
    simp only [Option.bind_some] at e ⊢
    clear h
    induction r generalizing j with
    | nil => simp at e
    | cons a b ih =>
      cases j with
      | zero => simp at e; subst e; exact ⟨_, rfl, a⟩
      | succ j => simpa using ih j (by simpa using e)
/-- x[i] -/
def opIx : Op2 := fun w u L => match w.dget L u with
  | some (some x) => .ok x L
  | some none => .stuck
  | none => match u with
    | .d (.int i) => match w.seq L with
      | some ws => match atI ws i with
        | some x => .ok x L
        | none => .stuck
      | none => match w with
        | .d (.str z) => if z.length ≤ sizeLine then match atI z.cps.toList i with
          | some c => .ok (.d (.str ⟨#[c]⟩)) L
          | none => .stuck
          else .stuck
        | _ => .stuck
    | _ => .stuck
def rIxD : R2 := fun x y H Q => ∃ a v, x = .ref a ∧ DGet H a y (some v) ∧ Q v H
theorem ix_dict (hu : X.A.units + 1 < cLine) : IxR X rIxD := by
  intro value slice pins s σ H x y v u Q I rx ry h hs
  obtain ⟨a, z, rfl, g, q⟩ := h
  obtain rfl : v = Value.ref a := rx
  have hT := dict_typeIs I g
  unfold subscriptTail
  refine wpAny_bind ?_
  rw [getitemInPython_of_ne hT.not_modules]
  refine wpAny_bind (wpAny_specialOf hT PySem.F.slot_dict_getitem.lookup ?_)
  have fin : wpAny (model X.prog X.w) X.A (subscripted slice false (.ref a) u) (fun r s₃ => wpAny (model X.prog X.w) X.A (letTemporaryGo value (.ref a) r >>= fun _ => pure r) (EP X pins σ Q) X.xe s₃) X.xe s := by
    rw [hs]
    exact wpAny_operating (wpAny_mono (d_getItem (Q := EP X pins σ Q) (E := X.xe) hu I g ry fun w' s' I' r' => ⟨z, H, I', r', q⟩) (fun r s₃ h₃ => wpAny_bind (wpAny_letTemporaryGo (wpAny_pure h₃))) fun _ _ x => x)
  first
    | exact wpAny_pure (wpAny_bind fin)
    | exact wpAny_bind (wpAny_pure (wpAny_bind fin))
    | exact wpAny_bind fin
theorem ok_ix : Ok2 X (fun x y H Q => rIxD x y H Q ∨ rIx X.K x y H Q) opIx := by
  intro Wx σ H al T L x y w u Q r q1 q2 h
  unfold opIx at h
  split at h
  · rename_i x e
    obtain ⟨a, ov, rfl, g, k⟩ := dget_ok r q1 q2 e
    cases ov with
    | none => exact k.elim
    | some z => exact .inl ⟨a, z, rfl, g, gok r h k⟩
  · exact h.elim
  · split at h
    · rename_i i _
      have hy := dq_int (rp_d q2)
      split at h
      · rename_i ws e
        obtain ⟨a, vs, rfl, sq, rr⟩ := seq_ok r q1 e
        split at h
        · rename_i x e2
          obtain ⟨z, h1, h2⟩ := atI_pair rr e2
          rcases sq with sq | sq
          · exact .inr (.inl ⟨a, vs, i, z, rfl, hy, sq, h1, gok r h h2⟩)
          · exact .inr (.inr (.inl ⟨a, vs, i, z, rfl, hy, sq, h1, gok r h h2⟩))
        · exact h.elim
      · split at h
        · rename_i z _ _
          split at h
          · split at h
            · rename_i hz _ c e2
              exact .inr (.inr (.inr ⟨z, i, c, dq_str (rp_d q1), hy, hz, e2, gok r h (.d (.str _))⟩))
            · exact h.elim
          · exact h.elim
        · exact h.elim
    · exact h.elim
theorem se_ix {a b : Expr} {fa fb : EF} {pos : Pos} (hu : X.A.units + 1 < cLine) (ha : SE X Wx a fa) (hb : SE X Wx b fb) (hs : PlainIx b := by exact fun _ _ => rfl) : SE X Wx (.Subscript a b pos) (eOp opIx fa fb) :=
  PE.imp (pe_ix ((ix_dict hu).or ix_seq) ha hb hs) fun _ _ _ h => op_core ok_ix h
end
end L2.HW
/-! SemG: slices, in, calls of built-ins. -/
namespace L2.HW
open PySem PySem.Spec PyProof.Rows
section
variable {X : Cx} {Wx : WX}
/-! ### slices -/
def SO (X : Cx) (Wx : WX) (e : Option Expr) (f : En → LH → Res (Option Int)) : Prop := PO X e (Rdg X Wx RO f)
theorem PO.imp {e : Option Expr} {t t' : TO} (h : PO X e t) (k : ∀ σ H Q, t' σ H Q → t σ H Q) : PO X e t' := ⟨fun pins s σ H Q I q => h.run pins s σ H Q I (k σ H Q q)⟩
def pNone : En → LH → Res (Option Int) := fun _ L => .ok none L
def pSome (f : EF) : En → LH → Res (Option Int) := fun env L => (f env L).bind fun w L1 => match w with
  | .d (.int i) => .ok (some i) L1
  | _ => .stuck
theorem so_none : SO X Wx none pNone := PO.imp po_none fun σ H Q ⟨env, L, al, T, c, h⟩ => gok c.rel h rfl
theorem so_some {e : Expr} {f : EF} (h : SE X Wx e f) : SO X Wx (some e) (pSome f) := by
  refine PO.imp (po_some h) ?_
  rintro σ H Q ⟨env, L, al, T, c, q⟩
  refine rseq (R := RV X) c q fun v H1 w L1 al1 c1 s1 r1 q1 => ?_
  split at q1
  · exact ⟨_, dq_int (rp_d r1), gok c1.rel q1 rfl⟩
  · exact q1.elim
def cutA {α : Type} (xs : List α) (lo hi : Option Int) : List α := (xs.drop (HT.sIx xs.length 0 lo)).take (HT.sIx xs.length xs.length hi - HT.sIx xs.length 0 lo)
theorem cutA_map {α β : Type} (f : α → β) (xs : List α) (lo hi : Option Int) : cutA (xs.map f) lo hi = (cutA xs lo hi).map f := by
  unfold cutA
  simp [List.map_drop, List.map_take]
theorem rps_drop {K : PySem.W.Frag} {mg : Str → Option Value} {M : Hp} {al : List Addr} : ∀ {vs : List V} {ws : List Va} (n : Nat), Rps K mg M al vs ws → Rps K mg M al (vs.drop n) (ws.drop n)
  | _, _, 0, h => h
  | _, _, _ + 1, .nil => .nil
  | _, _, n + 1, .cons _ b => rps_drop n b
theorem rps_take {K : PySem.W.Frag} {mg : Str → Option Value} {M : Hp} {al : List Addr} : ∀ {vs : List V} {ws : List Va} (n : Nat), Rps K mg M al vs ws → Rps K mg M al (vs.take n) (ws.take n)
  | _, _, 0, _ => .nil
  | _, _, _ + 1, .nil => .nil
  | _, _, n + 1, .cons a b => .cons a (rps_take n b)
theorem rps_cut {K : PySem.W.Frag} {mg : Str → Option Value} {M : Hp} {al : List Addr} {vs : List V} {ws : List Va} (h : Rps K mg M al vs ws) (lo hi : Option Int) : Rps K mg M al (cutV vs lo hi) (cutA ws lo hi) := by
  unfold cutV cutA
  rw [Paired.length h]
  exact rps_take _ (rps_drop _ h)
theorem cut_whole {α : Type} {xs : List α} {lo hi : Option Int} (h : HT.sIx xs.length 0 lo = 0 ∧ HT.sIx xs.length xs.length hi = xs.length) : cutA xs lo hi = xs := by
  unfold cutA
  rw [h.1, h.2]
  simp
/-- x[lo:hi] of a tuple, a text; of a list by its data -/
def opSl (w : Va) (lo hi : Option Int) (L : LH) : Res Va := match w with
  | .d (.tuple xs) => .ok (.d (.tuple (cutA xs lo hi))) L
  | .d (.str z) => if z.length ≤ sizeLine then .ok (.d (.str (cutS z lo hi))) L else .stuck
  | w => match w.items L with
    | some ws => match datas (cutA ws lo hi) with
      | some xs => .ok (.d (.list xs)) L
      | none => .stuck
    | none => .stuck
def eSl (f : EF) (p q : En → LH → Res (Option Int)) : EF := fun env L => (f env L).bind fun w L1 => (p env L1).bind fun lo L2 => (q env L2).bind fun hi L3 => opSl w lo hi L3
abbrev rSlAny (X : Cx) : V → Option Int → Option Int → Hp → VK → Prop := fun x lo hi H Q => rSlA X.K x lo hi H Q ∨ rSlL X.K x lo hi H Q ∨ rSlS x lo hi H Q
theorem sl_any : SlR X (rSlAny X) := SlR.or sl_tupA (SlR.or sl_list sl_str)
theorem se_sl {e : Expr} {lo hi : Option Expr} {f : EF} {p q : En → LH → Res (Option Int)} {p2 pos : Pos} (he : SE X Wx e f) (hl : SO X Wx lo p) (hu : SO X Wx hi q) : SE X Wx (.Subscript e (.Slice lo hi none p2) pos) (eSl f p q) := by
  refine PE.imp (pe_slice sl_any he hl hu) ?_
  rintro σ H Q ⟨env, L, al, T, c, h⟩
  refine rseq (R := RV X) c h fun v H1 w L1 al1 c1 s1 r1 h1 => ?_
  refine rseq (R := RO) c1 h1 fun lo' H2 lo L2 al2 c2 s2 e2 h2 => ?_
  refine rseq (R := RO) c2 h2 fun hi' H3 hi L3 al3 c3 s3 e3 h3 => ?_
  obtain rfl : lo' = lo := e2
  obtain rfl : hi' = hi := e3
  have r3 := s3.rp (s2.rp r1)
  unfold opSl at h3
  split at h3
  · rename_i xs
    obtain ⟨a, vs, rfl, e1, d1⟩ := dq_tup (rp_d r3)
    have l1 := d1.len
    refine .inl ⟨a, vs, rfl, SqT.of (of_mask e1).2, fun z => ?_, fun z => gnew c3.rel h3 fun p hp e m e' => ?_⟩
    · rw [l1] at z
      rw [cut_whole z] at h3
      exact gok c3.rel h3 (.d (.tup e1 d1))
    · have := rps_cut (K := X.K) (mg := X.mg) (al := al3) (all_dq (K := X.K) (mg := X.mg) (al := al3) d1) lo' hi'
      rw [cutA_map] at this
      exact .d (.tup e' (DqAll.le m (dq_all this)))
  · rename_i z
    split at h3
    · exact .inr (.inr ⟨z, dq_str (rp_d r3), by assumption, gok c3.rel h3 (.d (.str _))⟩)
    · exact h3.elim
  · split at h3
    · rename_i ws e1
      obtain ⟨a, vs, rfl, f1, d1⟩ := items_ok c3.rel r3 e1
      split at h3
      · rename_i xs e4
        have := rps_cut d1 lo' hi'
        rw [datas_eq e4] at this
        exact .inr (.inl ⟨a, vs, rfl, SqL.of f1, gnew c3.rel h3 fun p hp e m e' => .d (.lst e' (DqAll.le m (dq_all this)))⟩)
      · exact h3.elim
    · exact h3.elim
/-- x[lo:hi] of a list, fresh -/
def fSl (f : EF) (p q : En → LH → Res (Option Int)) : En → LH → Res Ob := fun env L => (f env L).bind fun w L1 => (p env L1).bind fun lo L2 => (q env L2).bind fun hi L3 => match w.items L3 with
  | some ws => .ok (.lst (cutA ws lo hi)) L3
  | none => .stuck
theorem fseq2 {σ : St} {H : Hp} {al T : List Addr} {L : LH} {α β : Type} {R : Hp → List Addr → β → α → Prop} {env : En} {f : En → LH → Res α} {k : α → LH → Res Ob} {Q : VK} {Q' : β → Hp → Prop}
    (c : Conf X.K X.mg σ H env L al T) (h : FPost X Wx σ H al T L ((f env L).bind k) Q)
    (hk : ∀ b H1 a L1 al1, Conf X.K X.mg σ H1 env L1 al1 T → Stp X.K X.mg H al T L H1 al1 T L1 → R (mask H1 (al1 ++ T)) al1 b a → FPost X Wx σ H1 al1 T L1 (k a L1) Q → Q' b H1) : Rdg X Wx R f σ H Q' := fseq c h hk
theorem sf_sl {e : Expr} {lo hi : Option Expr} {f : EF} {p q : En → LH → Res (Option Int)} {p2 pos : Pos} (he : SE X Wx e f) (hl : SO X Wx lo p) (hu : SO X Wx hi q) : SF X Wx (.Subscript e (.Slice lo hi none p2) pos) (fSl f p q) := by
  refine PE.imp (pe_slice sl_list he hl hu) ?_
  rintro σ H Q ⟨env, L, al, T, c, h⟩
  refine fseq (R := RV X) c h fun v H1 w L1 al1 c1 s1 r1 h1 => ?_
  refine fseq (R := RO) c1 h1 fun lo' H2 lo L2 al2 c2 s2 e2 h2 => ?_
  refine fseq (R := RO) c2 h2 fun hi' H3 hi L3 al3 c3 s3 e3 h3 => ?_
  obtain rfl : lo' = lo := e2
  obtain rfl : hi' = hi := e3
  have r3 := s3.rp (s2.rp r1)
  split at h3
  · rename_i ws e1
    obtain ⟨a, vs, rfl, f1, d1⟩ := items_ok c3.rel r3 e1
    exact ⟨a, vs, rfl, SqL.of f1, fnew c3.rel h3 fun p hp e m => ⟨_, e, Rps.le m (ALe.refl _) (rps_cut d1 lo' hi')⟩⟩
  · exact h3.elim
/-- xs + ys, fresh -/
def fCat (f g : EF) : En → LH → Res Ob := fun env L => (f env L).bind fun w L1 => (g env L1).bind fun u L2 => match w.items L2, u.items L2 with
  | some ws, some us => if ws.length + us.length ≤ sizeLine then .ok (.lst (ws ++ us)) L2 else .stuck
  | _, _ => .stuck
theorem sf_cat {a b : Expr} {f g : EF} {pos : Pos} (ha : SE X Wx a f) (hb : SE X Wx b g) : SF X Wx (.BinOp a .Add b pos) (fCat f g) := by
  refine PE.imp (pe_op op_cat ha hb) ?_
  rintro σ H Q ⟨env, L, al, T, c, h⟩
  refine fseq (R := RV X) c h fun v H1 w L1 al1 c1 s1 r1 h1 => ?_
  refine fseq (R := RV X) c1 h1 fun y H2 u L2 al2 c2 s2 r2 h2 => ?_
  split at h2
  · rename_i ws us e1 e2
    obtain ⟨a, vs, rfl, f1, d1⟩ := items_ok c2.rel (s2.rp r1) e1
    obtain ⟨b, zs, rfl, f2, d2⟩ := items_ok c2.rel r2 e2
    have l1 := Paired.length d1
    have l2 := Paired.length d2
    split at h2
    · exact ⟨a, b, vs, zs, rfl, rfl, f1, f2, by omega, fnew c2.rel h2 fun p hp e m => ⟨_, e, Rps.le m (ALe.refl _) (rps_app d1 d2)⟩⟩
    · exact h2.elim
  · exact h2.elim
/-- xs * k, fresh -/
def fRep (f g : EF) : En → LH → Res Ob := fun env L => (f env L).bind fun w L1 => (g env L1).bind fun u L2 => match w.items L2, u with
  | some ws, .d (.int k) => if -(2 ^ 63) ≤ k ∧ k < 2 ^ 63 ∧ ws.length * k.toNat ≤ sizeLine then .ok (.lst (rep k.toNat ws)) L2 else .stuck
  | _, _ => .stuck
theorem rps_rep {K : PySem.W.Frag} {mg : Str → Option Value} {M : Hp} {al : List Addr} {vs : List V} {ws : List Va} (h : Rps K mg M al vs ws) : ∀ k : Nat, Rps K mg M al (List.replicate k vs).flatten (List.replicate k ws).flatten
  | 0 => .nil
  | k + 1 => by rw [List.replicate_succ, List.replicate_succ, List.flatten_cons, List.flatten_cons]; exact rps_app h (rps_rep h k)
theorem sf_rep {a b : Expr} {f g : EF} {pos : Pos} (ha : SE X Wx a f) (hb : SE X Wx b g) : SF X Wx (.BinOp a .Mult b pos) (fRep f g) := by
  refine PE.imp (pe_op op_rep ha hb) ?_
  rintro σ H Q ⟨env, L, al, T, c, h⟩
  refine fseq (R := RV X) c h fun v H1 w L1 al1 c1 s1 r1 h1 => ?_
  refine fseq (R := RV X) c1 h1 fun y H2 u L2 al2 c2 s2 r2 h2 => ?_
  split at h2
  · rename_i ws k e1
    obtain ⟨a, vs, rfl, f1, d1⟩ := items_ok c2.rel (s2.rp r1) e1
    have e2 := dq_int (rp_d r2)
    have l1 := Paired.length d1
    split at h2
    · rename_i hc
      exact ⟨a, k, vs, rfl, e2, f1, hc.1, hc.2.1, by rw [l1]; exact hc.2.2, fnew c2.rel h2 fun p hp e m => ⟨_, e, Rps.le m (ALe.refl _) (rps_rep d1 _)⟩⟩
    · exact h2.elim
  · exact h2.elim

/-! ### in -/
def flatD : PyData → Bool
  | .none => true
  | .bool _ => true
  | .int _ => true
  | .str _ => true
  | _ => false
theorem flat_eq {M : Hp} {v y : V} {x z : PyData} (h1 : Dq M v x) (h2 : Dq M y z) (f1 : flatD x = true) (f2 : flatD z = true) : flatV v = true ∧ eqV y v = PyData.eqv z x := by
  cases h1 <;> first | (cases f1; done) | (cases h2 <;> first | (cases f2; done) | exact ⟨rfl, by simp [eqV, PyData.eqv]⟩)
theorem flat_all {M : Hp} {v : V} {x : PyData} (h1 : Dq M v x) (f1 : flatD x = true) : ∀ {vs : List V} {xs : List PyData}, DqAll M vs xs → xs.all flatD = true → vs.all flatV = true ∧ inV v vs = xs.any fun z => PyData.eqv z x
  | _, _, .nil, _ => ⟨rfl, rfl⟩
  | _, _, .cons a b, f => by
    rw [List.all_cons, Bool.and_eq_true] at f
    obtain ⟨h, e⟩ := flat_eq h1 a f1 f.1
    obtain ⟨h3, _⟩ := flat_eq a a f.1 f.1
    obtain ⟨h2, e2⟩ := flat_all h1 f1 b f.2
    refine ⟨by rw [List.all_cons, h3, h2]; rfl, ?_⟩
    have e2' := e2
    unfold inV at e2' ⊢
    rw [List.any_cons, List.any_cons, e, e2']
def opIn (neg : Bool) : Op2 := fun w u L => match u.dget L w with
  | some o => .ok (.d (.bool (if neg then !o.isSome else o.isSome))) L
  | none => match u, w with
    | .d (.str z), .d (.str s) => match s.cps.toList with
      | [c] => .ok (.d (.bool (if neg then !decide (c ∈ z.cps.toList) else decide (c ∈ z.cps.toList)))) L
      | _ => .stuck
    | .d (.tuple ds), .d x => if flatD x && ds.all flatD then .ok (.d (.bool (if neg then !(ds.any fun z => PyData.eqv z x) else ds.any fun z => PyData.eqv z x))) L else .stuck
    | u, w => match u.data L, w.data L with
      | some (.list ds), some x => if SeqAt.shaped x && SeqAt.shaped (.list ds) then .ok (.d (.bool (if neg then !(ds.any fun z => PyData.eqv z x) else ds.any fun z => PyData.eqv z x))) L else .stuck
      | _, _ => .stuck
def rInDc (neg : Bool) : R2 := fun x y H Q => ∃ a o, y = .ref a ∧ DGet H a x o ∧ Q (.bl (if neg then !o.isSome else o.isSome)) H
theorem op_in_dict (hu : X.A.units + 1 < cLine) : OpR X (compareOp .In) (rInDc false) := by
  intro pins s σ H x y v u Q I rx ry h
  obtain ⟨a, o, rfl, g, q⟩ := h
  obtain rfl : u = Value.ref a := ry
  exact d_in hu I g rx fun s3 I3 => ⟨.bl o.isSome, H, I3, rfl, q⟩
theorem op_notIn_dict (hu : X.A.units + 1 < cLine) : OpR X (compareOp .NotIn) (rInDc true) := by
  intro pins s σ H x y v u Q I rx ry h
  obtain ⟨a, o, rfl, g, q⟩ := h
  obtain rfl : u = Value.ref a := ry
  exact d_notIn hu I g rx fun s3 I3 => ⟨.bl (!o.isSome), H, I3, rfl, q⟩
abbrev rInSg (neg : Bool) : R2 := fun x y H Q => ∃ (c : Nat) (z : Str), x = .str ⟨#[c]⟩ ∧ y = .str z ∧ Q (.bl (if neg then !decide (c ∈ z.cps.toList) else decide (c ∈ z.cps.toList))) H
abbrev rInDd (X : Cx) (neg : Bool) : R2 := fun x y H Q => ∃ d ds, Dp X.K H x d ∧ Dp X.K H y (.list ds) ∧ SeqAt.shaped d = true ∧ SeqAt.shaped (.list ds) = true ∧ Q (.bl (if neg then !(ds.any fun z => PyData.eqv z d) else ds.any fun z => PyData.eqv z d)) H
abbrev rInAny (X : Cx) (neg : Bool) : R2 := fun x y H Q => rInDc neg x y H Q ∨ rInSg neg x y H Q ∨ rIn X.K neg x y H Q ∨ rInDd X neg x y H Q
theorem op_in_any (hu : X.A.units + 65 < cLine) : OpR X (compareOp .In) (rInAny X false) :=
  OpR.or (op_in_dict (by omega)) (OpR.or (r := rInSg false) op_in_sign (OpR.or op_in_seq (r' := rInDd X false) (op_inD hu)))
theorem op_notIn_any (hu : X.A.units + 65 < cLine) : OpR X (compareOp .NotIn) (rInAny X true) :=
  OpR.or (op_notIn_dict (by omega)) (OpR.or (r := rInSg true) op_notIn_sign (OpR.or op_notIn_seq (r' := rInDd X true) (op_notInD hu)))
theorem data_all {M : Hp} : ∀ {vs : List V} {xs : List PyData}, DqAll M vs xs → DqAll M vs xs := fun h => h
theorem ok_in {neg : Bool} : Ok2 X (rInAny X neg) (opIn neg) := by
  intro Wx σ H al T L x y w u Q r q1 q2 h
  unfold opIn at h
  split at h
  · rename_i o e
    obtain ⟨a, ov, rfl, g, k⟩ := dget_ok r q2 q1 e
    refine .inl ⟨a, ov, rfl, g, ?_⟩
    have : ov.isSome = o.isSome := by
      cases ov <;> cases o <;> first | rfl | exact k.elim
    rw [this]
    exact gok r h (.d (.bl _))
  · split at h
    · rename_i z s _
      split at h
      · rename_i c e
        have e1 : s = ⟨#[c]⟩ := by
          obtain ⟨cps⟩ := s
          simp only at e
          congr 1
          exact Array.toList_inj.mp e
        refine .inr (.inl ⟨c, z, ?_, dq_str (rp_d q2), gok r h (.d (.bl _))⟩)
        rw [dq_str (rp_d q1), e1]
      · exact h.elim
    · rename_i ds x _
      split at h
      · rename_i hc
        rw [Bool.and_eq_true] at hc
        obtain ⟨a, vs, rfl, e1, d1⟩ := dq_tup (rp_d q2)
        obtain ⟨h1, h2⟩ := flat_all (rp_d q1) hc.1 d1 hc.2
        obtain ⟨h3, _⟩ := flat_eq (rp_d q1) (rp_d q1) hc.1 hc.1
        refine .inr (.inr (.inl ⟨a, vs, rfl, .inr (SqT.of (of_mask e1).2), h3, h1, ?_⟩))
        rw [h2]
        exact gok r h (.d (.bl _))
      · exact h.elim
    · split at h
      · rename_i ds x e1 e2
        split at h
        · rename_i hc
          rw [Bool.and_eq_true] at hc
          exact .inr (.inr (.inr ⟨x, ds, (data_ok r q1 e2).dp, (data_ok r q2 e1).dp, hc.1, hc.2, gok r h (.d (.bl _))⟩))
        · exact h.elim
      · exact h.elim
end
end L2.HW
/-! SemH: calls of built-ins. -/
namespace L2.HW
open PySem PySem.Spec PyProof.Rows
section
variable {X : Cx} {Wx : WX}
def OkC (X : Cx) (r : List V → Hp → VK → Prop) (g : List Va → LH → Res Va) : Prop := ∀ (Wx : WX) (σ : St) (H : Hp) (al T : List Addr) (L : LH) (xs : List V) (ws : List Va) (Q : VK), Rel X.K X.mg H al T L → RVs X (mask H (al ++ T)) al xs ws →
  GPost X Wx σ H al T L (RV X) (g ws L) Q → r xs H Q
def OkCF (X : Cx) (r : List V → Hp → VK → Prop) (g : List Va → LH → Res Ob) : Prop := ∀ (Wx : WX) (σ : St) (H : Hp) (al T : List Addr) (L : LH) (xs : List V) (ws : List Va) (Q : VK), Rel X.K X.mg H al T L → RVs X (mask H (al ++ T)) al xs ws →
  FPost X Wx σ H al T L (g ws L) Q → r xs H Q
def eCallB (g : List Va → LH → Res Va) (fs : En → LH → Res (List Va)) : EF := fun env L => (fs env L).bind g
def fCallB (g : List Va → LH → Res Ob) (fs : En → LH → Res (List Va)) : En → LH → Res Ob := fun env L => (fs env L).bind g
variable {x : Str} {p pos : Pos} {e : Expr} {es : List Expr} {fs : En → LH → Res (List Va)} {id T : String} {r : List V → Hp → VK → Prop}
theorem callB_core {g : List Va → LH → Res Va} {σ : St} {H : Hp} {Q : VK} (ok : OkC X r g) (h : Rdg X Wx (RV X) (eCallB g fs) σ H Q) : tCB r (Rdg X Wx (RVs X) fs) σ H Q := by
  obtain ⟨env, L, al, T, c, q⟩ := h
  exact rseq (R := RVs X) c q fun vs H1 ws L1 al1 c1 s1 r1 q1 => ok Wx σ H1 al1 T L1 vs ws Q c1.rel r1 q1
theorem callF_core {g : List Va → LH → Res Ob} {σ : St} {H : Hp} {Q : VK} (ok : OkCF X r g) (h : FRdg X Wx (fCallB g fs) σ H Q) : tCB r (Rdg X Wx (RVs X) fs) σ H Q := by
  obtain ⟨env, L, al, T, c, q⟩ := h
  exact fseq (R := RVs X) c q fun vs H1 ws L1 al1 c1 s1 r1 q1 => ok Wx σ H1 al1 T L1 vs ws Q c1.rel r1 q1
theorem se_callB {g : List Va → LH → Res Va} (hc : CallR X (.builtin id) r) (ok : OkC X r g) (hg : Gl X x) (hm : X.mg x = none) (hv : bootBuiltins x = some (.builtin id)) (ha : SA X Wx (e :: es) fs) (hn : x ≠ "__name__" := by decide) (hdb : (x == ("__debug__" : Str)) = false := by decide)
    (he : starEach (e :: es) X.env = (false, eval e X.env) :: starEach es X.env := by rfl) (hpl : (backTo pos (starEach es X.env)).any (·.1) = false := by rfl) : SE X Wx (.Call (.Name x p) (e :: es) [] pos) (eCallB g fs) :=
  PE.imp (pe_callB hc hg hm hv ha hn hdb he hpl) fun _ _ _ h => callB_core ok h
theorem se_callTy {g : List Va → LH → Res Va} (hc : CallR X (.type T) r) (ok : OkC X r g) (hg : Gl X x) (hm : X.mg x = none) (hv : bootBuiltins x = some (.type T)) (ha : SA X Wx (e :: es) fs) (hn : x ≠ "__name__" := by decide) (hdb : (x == ("__debug__" : Str)) = false := by decide)
    (he : starEach (e :: es) X.env = (false, eval e X.env) :: starEach es X.env := by rfl) (hpl : (backTo pos (starEach es X.env)).any (·.1) = false := by rfl) : SE X Wx (.Call (.Name x p) (e :: es) [] pos) (eCallB g fs) :=
  PE.imp (pe_callTy hc hg hm hv ha hn hdb he hpl) fun _ _ _ h => callB_core ok h
theorem sf_callB {g : List Va → LH → Res Ob} (hc : CallR X (.builtin id) r) (ok : OkCF X r g) (hg : Gl X x) (hm : X.mg x = none) (hv : bootBuiltins x = some (.builtin id)) (ha : SA X Wx (e :: es) fs) (hn : x ≠ "__name__" := by decide) (hdb : (x == ("__debug__" : Str)) = false := by decide)
    (he : starEach (e :: es) X.env = (false, eval e X.env) :: starEach es X.env := by rfl) (hpl : (backTo pos (starEach es X.env)).any (·.1) = false := by rfl) : SF X Wx (.Call (.Name x p) (e :: es) [] pos) (fCallB g fs) :=
  PE.imp (pe_callB hc hg hm hv ha hn hdb he hpl) fun _ _ _ h => callF_core ok h
theorem sf_callTy {g : List Va → LH → Res Ob} (hc : CallR X (.type T) r) (ok : OkCF X r g) (hg : Gl X x) (hm : X.mg x = none) (hv : bootBuiltins x = some (.type T)) (ha : SA X Wx (e :: es) fs) (hn : x ≠ "__name__" := by decide) (hdb : (x == ("__debug__" : Str)) = false := by decide)
    (he : starEach (e :: es) X.env = (false, eval e X.env) :: starEach es X.env := by rfl) (hpl : (backTo pos (starEach es X.env)).any (·.1) = false := by rfl) : SF X Wx (.Call (.Name x p) (e :: es) [] pos) (fCallB g fs) :=
  PE.imp (pe_callTy hc hg hm hv ha hn hdb he hpl) fun _ _ _ h => callF_core ok h
theorem rps_1 {K : PySem.W.Frag} {mg : Str → Option Value} {M : Hp} {al : List Addr} {xs : List V} {w : Va} (h : Rps K mg M al xs [w]) : ∃ v, xs = [v] ∧ Rp K mg M al v w := by
  cases h with | cons a b => cases b; exact ⟨_, rfl, a⟩
theorem rps_2 {K : PySem.W.Frag} {mg : Str → Option Value} {M : Hp} {al : List Addr} {xs : List V} {w u : Va} (h : Rps K mg M al xs [w, u]) : ∃ v y, xs = [v, y] ∧ Rp K mg M al v w ∧ Rp K mg M al y u := by
  cases h with | cons a b => cases b with | cons c d => cases d; exact ⟨_, _, rfl, a, c⟩
/-! ### len -/
def cLen : List Va → LH → Res Va := fun ws L => match ws with
  | [w] => match w with
    | .d (.str z) => if z.length ≤ sizeLine then .ok (.d (.int z.length)) L else .stuck
    | .dct ks => .ok (.d (.int ks.length)) L
    | w => match w.seq L with
      | some us => .ok (.d (.int us.length)) L
      | none => match w with
        | .loc n => match L[n]? with
          | some (some (.di ks)) => .ok (.d (.int ks.length)) L
          | _ => .stuck
        | _ => .stuck
  | _ => .stuck
abbrev rLenS (X : Cx) : List V → Hp → VK → Prop := fun xs H Q => ∃ x n, xs = [x] ∧ LenV X.K x H n ∧ Q (.int n) H
abbrev rLenD : List V → Hp → VK → Prop := fun xs H Q => ∃ a kvs, xs = [.ref a] ∧ H a = some (.dK kvs) ∧ Q (.int (kvs.length : Nat)) H
theorem call_lenDK : CallR X (.builtin "len") rLenD := by
  intro pins s σ H xs us Q I r h
  obtain ⟨a, kvs, rfl, e, q⟩ := h
  rw [Vals.ref1 r]
  exact d_len I (.inl e) fun t s' I' => ⟨.int _, H, I', ⟨t, rfl⟩, q⟩
theorem cr_len : CallR X (.builtin "len") (fun xs H Q => rLenS X xs H Q ∨ rLenD xs H Q) := CallR.or call_len call_lenDK
theorem ok_len : OkC X (fun xs H Q => rLenS X xs H Q ∨ rLenD xs H Q) cLen := by
  intro Wx σ H al T L xs ws Q r q h
  unfold cLen at h
  split at h
  · rename_i w
    obtain ⟨v, rfl, q1⟩ := rps_1 q
    split at h
    · rename_i z
      split at h
      · exact .inl ⟨v, z.length, rfl, by rw [dq_str (rp_d q1)]; exact ⟨by assumption, rfl⟩, gok r h (.d (.int _))⟩
      · exact h.elim
    · rename_i ks
      cases q1 with
      | @dct a kvs _ e1 e2 =>
        have l := Paired.length e2
        refine .inr ⟨a, kvs, rfl, (of_mask e1).2, ?_⟩
        rw [l]
        exact gok r h (.d (.int _))
    · split at h
      · rename_i us e
        obtain ⟨a, vs, rfl, sq, rr⟩ := seq_ok r q1 e
        have l := Paired.length rr
        refine .inl ⟨.ref a, us.length, rfl, ?_, gok r h (.d (.int _))⟩
        rcases sq with sq | sq
        · exact .inl ⟨vs, sq, l.symm⟩
        · exact .inr ⟨vs, sq, l.symm⟩
      · split at h
        · rename_i n _ _ _
          split at h
          · rename_i ks e1
            cases q1 with
            | @loc _ a e2 =>
              obtain ⟨a', e3, kvs, e4, e5⟩ := r.cell n _ e1
              rw [e2] at e3; cases e3
              have l := Paired.length e5
              refine .inr ⟨a, kvs, rfl, e4, ?_⟩
              rw [l]
              exact gok r h (.d (.int _))
          · exact h.elim
        · exact h.elim
  · exact h.elim
/-! ### isinstance of a built-in type -/
def Va.kind (L : LH) : Va → Option String
  | .d .none => some "NoneType"
  | .d (.bool _) => some "bool"
  | .d (.int _) => some "int"
  | .d (.str _) => some "str"
  | .d (.list _) => some "list"
  | .d (.tuple _) => some "tuple"
  | .d (.dict _) => some "dict"
  | .tup _ => some "tuple"
  | .dct _ => some "dict"
  | .loc n => match L[n]? with
    | some (some (.lst _)) => some "list"
    | some (some (.di _)) => some "dict"
    | some (some (.dt _)) => some "dict"
    | _ => none
  | _ => none
def isKind (a T : String) : Bool := a == T || (a == "bool" && T == "int")
def kinds : List String := ["NoneType", "bool", "int", "str", "list", "tuple", "dict"]
theorem kind_mem {L : LH} {w : Va} {k : String} (e : w.kind L = some k) : k ∈ kinds := by
  unfold Va.kind at e
  split at e <;> first | (cases e; decide) | (split at e <;> first | (cases e; decide) | cases e) | cases e
theorem kind_ok {K : PySem.W.Frag} {mg : Str → Option Value} {H : Hp} {al T : List Addr} {L : LH} (r : Rel K mg H al T L) {v : V} {w : Va} {k : String} (q : Rp K mg (mask H (al ++ T)) al v w) (e : w.kind L = some k) : TyX K H v (.type k) := by
  unfold Va.kind at e
  split at e
  · cases e; rw [dq_non (rp_d q)]; exact .base .non
  · cases e; rw [dq_bl (rp_d q)]; exact .base (.bl _)
  · cases e; rw [dq_int (rp_d q)]; exact .base (.int _)
  · cases e; rw [dq_str (rp_d q)]; exact .base (.str _)
  · cases e; obtain ⟨a, vs, rfl, e1, _⟩ := dq_lst (rp_d q); exact .base (.lst (of_mask e1).2)
  · cases e; obtain ⟨a, vs, rfl, e1, _⟩ := dq_tup (rp_d q); exact .base (.tup (of_mask e1).2)
  · exact nomatch (rp_d q)
  · cases e
    cases q with
    | tup e1 _ => exact .base (.tup (of_mask e1).2)
  · cases e
    cases q with
    | dct e1 _ => exact .base (.dK (of_mask e1).2)
  · rename_i n
    cases q with
    | @loc _ a e2 =>
      split at e
      · rename_i ws e1
        cases e
        obtain ⟨a', e3, kvs, e4, e5⟩ := r.cell n _ e1
        rw [e2] at e3; cases e3
        exact .base (.lst e4)
      · rename_i ws e1
        cases e
        obtain ⟨a', e3, kvs, e4, e5⟩ := r.cell n _ e1
        rw [e2] at e3; cases e3
        exact .base (.dK e4)
      · rename_i ws e1
        cases e
        obtain ⟨a', e3, kvs, e4, e5⟩ := r.cell n _ e1
        rw [e2] at e3; cases e3
        exact .base (.dT e4)
      · cases e
  · cases e
def eIsi (T : String) (f : EF) : EF := fun env L => (f env L).bind fun w L1 => match w.kind L1 with
  | some k => .ok (.d (.bool (isKind k T))) L1
  | none => .stuck
theorem se_isi {y : Str} {q : Pos} {f : EF} (hg : Gl X "isinstance") (hm : X.mg "isinstance" = none) (hg2 : Gl X y) (hm2 : X.mg y = none) (hv2 : bootBuiltins y = some (.type T)) (hk : ∀ k ∈ kinds, kitB k T = some (isKind k T)) (ha : SE X Wx e f)
    (hn2 : y ≠ "__name__" := by decide) (hd2 : (y == ("__debug__" : Str)) = false := by decide)
    (he : starEach (e :: [.Name y q]) X.env = (false, eval e X.env) :: starEach [.Name y q] X.env := by rfl) : SE X Wx (.Call (.Name "isinstance" p) [e, .Name y q] [] pos) (eIsi T f) := by
  refine PE.imp (pe_callB call_isi hg hm (by decide +kernel) (pa_cons ha (pa_cons (pe_bltn (v := .ty T) hg2 hm2 hv2 rfl hn2 hd2) pa_nil) he) (by decide) (by decide) he rfl) ?_
  rintro σ H Q ⟨env, L, al, T', c, h⟩
  refine rseq (R := RV X) c h fun v H1 w L1 al1 c1 s1 r1 q1 => ?_
  split at q1
  · rename_i k ek
    exact ⟨v, .ty T, .type k, .type T, isKind k T, rfl, .ty T, kind_ok c1.rel r1 ek, kit_ty (hk k (kind_mem ek)), gok c1.rel q1 (.d (.bl _))⟩
  · exact q1.elim
theorem kit_int : ∀ k ∈ kinds, kitB k "int" = some (isKind k "int") := by decide +kernel
theorem kit_bool : ∀ k ∈ kinds, kitB k "bool" = some (isKind k "bool") := by decide +kernel
theorem kit_tuple : ∀ k ∈ kinds, kitB k "tuple" = some (isKind k "tuple") := by decide +kernel
theorem kit_str : ∀ k ∈ kinds, kitB k "str" = some (isKind k "str") := by decide +kernel
theorem kit_list : ∀ k ∈ kinds, kitB k "list" = some (isKind k "list") := by decide +kernel
/-! ### all, any, sum, min, max -/
def boolsOf : List Va → Option (List Bool)
  | [] => some []
  | .d (.bool b) :: r => (boolsOf r).map (b :: ·)
  | _ :: _ => none
@[simp] theorem boolsOf_nil : boolsOf [] = some [] := (rfl)
@[simp] theorem boolsOf_map (bs : List Bool) : boolsOf (bs.map fun b => Va.d (.bool b)) = some bs := by
  induction bs with
  | nil => rfl
  | cons b r ih => simp only [List.map_cons, boolsOf, ih]; rfl
theorem bools_ok {K : PySem.W.Frag} {mg : Str → Option Value} {M : Hp} {al : List Addr} : ∀ {vs : List V} {ws : List Va} {bs : List Bool}, Rps K mg M al vs ws → boolsOf ws = some bs → vs = bs.map V.bl
  | _, _, bs, .nil, h => by cases h; rfl
  | _, .d (.bool b) :: ws, bs, .cons q r, h => by
    simp only [boolsOf] at h
    cases e : boolsOf ws with
    | none => rw [e] at h; cases h
    | some cs => rw [e] at h; cases h; rw [bools_ok r e, dq_bl (rp_d q)]; rfl
  | _, .d .none :: _, _, .cons _ _, h => by cases h
  | _, .d (.int _) :: _, _, .cons _ _, h => by cases h
  | _, .d (.str _) :: _, _, .cons _ _, h => by cases h
  | _, .d (.list _) :: _, _, .cons _ _, h => by cases h
  | _, .d (.tuple _) :: _, _, .cons _ _, h => by cases h
  | _, .d (.dict _) :: _, _, .cons _ _, h => by cases h
  | _, .loc _ :: _, _, .cons _ _, h => by cases h
  | _, .tup _ :: _, _, .cons _ _, h => by cases h
  | _, .dct _ :: _, _, .cons _ _, h => by cases h
  | _, .exc _ _ :: _, _, .cons _ _, h => by cases h
  | _, .scr _ :: _, _, .cons _ _, h => by cases h
def vaInts : List Va → Option (List Int)
  | [] => some []
  | .d (.int b) :: r => (vaInts r).map (b :: ·)
  | _ :: _ => none
@[simp] theorem vaInts_nil : vaInts [] = some [] := (rfl)
@[simp] theorem vaInts_map (bs : List Int) : vaInts (bs.map fun b => Va.d (.int b)) = some bs := by
  induction bs with
  | nil => rfl
  | cons b r ih => simp only [List.map_cons, vaInts, ih]; rfl
theorem ints_ok {K : PySem.W.Frag} {mg : Str → Option Value} {M : Hp} {al : List Addr} : ∀ {vs : List V} {ws : List Va} {bs : List Int}, Rps K mg M al vs ws → vaInts ws = some bs → vs = bs.map V.int
  | _, _, bs, .nil, h => by cases h; rfl
  | _, .d (.int b) :: ws, bs, .cons q r, h => by
    simp only [vaInts] at h
    cases e : vaInts ws with
    | none => rw [e] at h; cases h
    | some cs => rw [e] at h; cases h; rw [ints_ok r e, dq_int (rp_d q)]; rfl
  | _, .d .none :: _, _, .cons _ _, h => by cases h
  | _, .d (.bool _) :: _, _, .cons _ _, h => by cases h
  | _, .d (.str _) :: _, _, .cons _ _, h => by cases h
  | _, .d (.list _) :: _, _, .cons _ _, h => by cases h
  | _, .d (.tuple _) :: _, _, .cons _ _, h => by cases h
  | _, .d (.dict _) :: _, _, .cons _ _, h => by cases h
  | _, .loc _ :: _, _, .cons _ _, h => by cases h
  | _, .tup _ :: _, _, .cons _ _, h => by cases h
  | _, .dct _ :: _, _, .cons _ _, h => by cases h
  | _, .exc _ _ :: _, _, .cons _ _, h => by cases h
  | _, .scr _ :: _, _, .cons _ _, h => by cases h
/-- the list that is the only argument -/
def one (ws : List Va) (L : LH) (k : List Va → Res Va) : Res Va := match ws with
  | [w] => match w.items L with
    | some us => k us
    | none => .stuck
  | _ => .stuck
theorem one_ok {H : Hp} {al T : List Addr} {L : LH} {σ : St} {xs : List V} {ws : List Va} {k : List Va → Res Va} {Q : VK} (r : Rel X.K X.mg H al T L) (q : RVs X (mask H (al ++ T)) al xs ws) (h : GPost X Wx σ H al T L (RV X) (one ws L k) Q) :
    ∃ a vs us, xs = [.ref a] ∧ H a = some (.lst vs) ∧ RVs X (mask H (al ++ T)) al vs us ∧ GPost X Wx σ H al T L (RV X) (k us) Q := by
  unfold one at h
  split at h
  · obtain ⟨v, rfl, q1⟩ := rps_1 q
    split at h
    · rename_i us e
      obtain ⟨a, vs, rfl, f1, d1⟩ := items_ok r q1 e
      exact ⟨a, vs, us, rfl, f1, d1, h⟩
    · exact h.elim
  · exact h.elim
def cAll : List Va → LH → Res Va := fun ws L => one ws L fun us => match boolsOf us with
  | some bs => .ok (.d (.bool (bs.all _root_.id))) L
  | none => .stuck
def cAny : List Va → LH → Res Va := fun ws L => one ws L fun us => match boolsOf us with
  | some bs => .ok (.d (.bool (bs.any _root_.id))) L
  | none => .stuck
def cSum : List Va → LH → Res Va := fun ws L => one ws L fun us => match vaInts us with
  | some ns => .ok (.d (.int ns.sum)) L
  | none => .stuck
def minI : List Int → Option Int
  | [] => none
  | a :: r => some (r.foldl (fun m x => if x < m then x else m) a)
def maxI : List Int → Option Int
  | [] => none
  | a :: r => some (r.foldl (fun m x => if m < x then x else m) a)
theorem minI_fold : ∀ (r : List Int) (a : Int), (r.foldl (fun m x => if x < m then x else m) a = a ∨ r.foldl (fun m x => if x < m then x else m) a ∈ r) ∧ r.foldl (fun m x => if x < m then x else m) a ≤ a ∧ ∀ y ∈ r, r.foldl (fun m x => if x < m then x else m) a ≤ y
  | [], a => by simp
  | x :: r, a => by
    have h := minI_fold r (if x < a then x else a)
    simp only [List.foldl_cons]
    by_cases c : x < a
    · rw [if_pos c] at h ⊢
      refine ⟨.inr ?_, by omega, fun y hy => ?_⟩
      · rcases h.1 with e | e
        · rw [e]; exact List.mem_cons_self
        · exact List.mem_cons_of_mem _ e
      · rcases List.mem_cons.mp hy with e | e
        · rw [e]; exact h.2.1
        · exact h.2.2 y e
    · rw [if_neg c] at h ⊢
      refine ⟨h.1.imp id fun e => List.mem_cons_of_mem _ e, h.2.1, fun y hy => ?_⟩
      rcases List.mem_cons.mp hy with e | e
      · rw [e]; have := h.2.1; omega
      · exact h.2.2 y e
theorem maxI_fold : ∀ (r : List Int) (a : Int), (r.foldl (fun m x => if m < x then x else m) a = a ∨ r.foldl (fun m x => if m < x then x else m) a ∈ r) ∧ a ≤ r.foldl (fun m x => if m < x then x else m) a ∧ ∀ y ∈ r, y ≤ r.foldl (fun m x => if m < x then x else m) a
  | [], a => by simp
  | x :: r, a => by
    have h := maxI_fold r (if a < x then x else a)
    simp only [List.foldl_cons]
    by_cases c : a < x
    · rw [if_pos c] at h ⊢
      refine ⟨.inr ?_, by omega, fun y hy => ?_⟩
      · rcases h.1 with e | e
        · rw [e]; exact List.mem_cons_self
        · exact List.mem_cons_of_mem _ e
      · rcases List.mem_cons.mp hy with e | e
        · rw [e]; exact h.2.1
        · exact h.2.2 y e
    · rw [if_neg c] at h ⊢
      refine ⟨h.1.imp id fun e => List.mem_cons_of_mem _ e, h.2.1, fun y hy => ?_⟩
      rcases List.mem_cons.mp hy with e | e
      · rw [e]; have := h.2.1; omega
      · exact h.2.2 y e
theorem minI_spec {ns : List Int} {m : Int} (h : minI ns = some m) : m ∈ ns ∧ ∀ y ∈ ns, m ≤ y := by
  cases ns with
  | nil => cases h
  | cons a r =>
    cases h
    have h := minI_fold r a
    refine ⟨?_, fun y hy => ?_⟩
    · rcases h.1 with e | e
      · rw [e]; exact List.mem_cons_self
      · exact List.mem_cons_of_mem _ e
    · rcases List.mem_cons.mp hy with e | e
      · rw [e]; exact h.2.1
      · exact h.2.2 y e
theorem maxI_spec {ns : List Int} {m : Int} (h : maxI ns = some m) : m ∈ ns ∧ ∀ y ∈ ns, y ≤ m := by
  cases ns with
  | nil => cases h
  | cons a r =>
    cases h
    have h := maxI_fold r a
    refine ⟨?_, fun y hy => ?_⟩
    · rcases h.1 with e | e
      · rw [e]; exact List.mem_cons_self
      · exact List.mem_cons_of_mem _ e
    · rcases List.mem_cons.mp hy with e | e
      · rw [e]; exact h.2.1
      · exact h.2.2 y e
theorem minI_pos {ns : List Int} {m : Int} (h : minI ns = some m) : 0 < ns.length := by
  cases ns with
  | nil => cases h
  | cons a r => simp
theorem maxI_pos {ns : List Int} {m : Int} (h : maxI ns = some m) : 0 < ns.length := by
  cases ns with
  | nil => cases h
  | cons a r => simp
def cMin1 : List Va → LH → Res Va := fun ws L => one ws L fun us => match vaInts us with
  | some ns => match minI ns with
    | some m => .ok (.d (.int m)) L
    | none => .stuck
  | none => .stuck
def cMax1 : List Va → LH → Res Va := fun ws L => one ws L fun us => match vaInts us with
  | some ns => match maxI ns with
    | some m => .ok (.d (.int m)) L
    | none => .stuck
  | none => .stuck
theorem ok_all : OkC X (rAll X.K) cAll := by
  intro Wx σ H al T L xs ws Q r q h
  obtain ⟨a, vs, us, rfl, f1, d1, h⟩ := one_ok r q h
  split at h
  · rename_i bs e
    have := bools_ok d1 e
    subst this
    exact ⟨a, bs, rfl, SqL.of f1, gok r h (.d (.bl _))⟩
  · exact h.elim
theorem ok_any : OkC X (rAny X.K) cAny := by
  intro Wx σ H al T L xs ws Q r q h
  obtain ⟨a, vs, us, rfl, f1, d1, h⟩ := one_ok r q h
  split at h
  · rename_i bs e
    have := bools_ok d1 e
    subst this
    exact ⟨a, bs, rfl, SqL.of f1, gok r h (.d (.bl _))⟩
  · exact h.elim
theorem ok_sum : OkC X (rSum X.K) cSum := by
  intro Wx σ H al T L xs ws Q r q h
  obtain ⟨a, vs, us, rfl, f1, d1, h⟩ := one_ok r q h
  split at h
  · rename_i bs e
    have := ints_ok d1 e
    subst this
    exact ⟨a, bs, rfl, SqL.of f1, gok r h (.d (.int _))⟩
  · exact h.elim
theorem ok_min1 : OkC X (rMin X.K) cMin1 := by
  intro Wx σ H al T L xs ws Q r q h
  obtain ⟨a, vs, us, rfl, f1, d1, h⟩ := one_ok r q h
  split at h
  · rename_i bs e
    have := ints_ok d1 e
    subst this
    split at h
    · rename_i m em
      obtain ⟨h1, h2⟩ := minI_spec em
      refine ⟨a, bs, rfl, SqL.of f1, minI_pos em, fun m' h3 h4 => ?_⟩
      have : m' = m := by have := h2 m' h3; have := h4 m h1; omega
      rw [this]
      exact gok r h (.d (.int _))
    · exact h.elim
  · exact h.elim
theorem ok_max1 : OkC X (rMax X.K) cMax1 := by
  intro Wx σ H al T L xs ws Q r q h
  obtain ⟨a, vs, us, rfl, f1, d1, h⟩ := one_ok r q h
  split at h
  · rename_i bs e
    have := ints_ok d1 e
    subst this
    split at h
    · rename_i m em
      obtain ⟨h1, h2⟩ := maxI_spec em
      refine ⟨a, bs, rfl, SqL.of f1, maxI_pos em, fun m' h3 h4 => ?_⟩
      have : m' = m := by have := h2 m' h3; have := h4 m h1; omega
      rw [this]
      exact gok r h (.d (.int _))
    · exact h.elim
  · exact h.elim
def cMin2 : List Va → LH → Res Va := fun ws L => match ws with
  | [.d (.int i), .d (.int j)] => .ok (.d (.int (if j < i then j else i))) L
  | _ => .stuck
def cMax2 : List Va → LH → Res Va := fun ws L => match ws with
  | [.d (.int i), .d (.int j)] => .ok (.d (.int (if j > i then j else i))) L
  | _ => .stuck
theorem ok_min2 : OkC X (fun xs H Q => ∃ i j, xs = [.int i, .int j] ∧ Q (.int (if j < i then j else i)) H) cMin2 := by
  intro Wx σ H al T L xs ws Q r q h
  unfold cMin2 at h
  split at h
  · obtain ⟨v, y, rfl, q1, q2⟩ := rps_2 q
    exact ⟨_, _, by rw [dq_int (rp_d q1), dq_int (rp_d q2)], gok r h (.d (.int _))⟩
  · exact h.elim
theorem ok_max2 : OkC X (fun xs H Q => ∃ i j, xs = [.int i, .int j] ∧ Q (.int (if j > i then j else i)) H) cMax2 := by
  intro Wx σ H al T L xs ws Q r q h
  unfold cMax2 at h
  split at h
  · obtain ⟨v, y, rfl, q1, q2⟩ := rps_2 q
    exact ⟨_, _, by rw [dq_int (rp_d q1), dq_int (rp_d q2)], gok r h (.d (.int _))⟩
  · exact h.elim
def cInt : List Va → LH → Res Va := fun ws L => match ws with
  | [.d (.int i)] => .ok (.d (.int i)) L
  | [.d (.bool b)] => .ok (.d (.int (if b then 1 else 0))) L
  | _ => .stuck
theorem ok_int : OkC X (fun xs H Q => (∃ i, xs = [.int i] ∧ Q (.int i) H) ∨ ∃ k, xs = [.bl k] ∧ Q (.int (if k then 1 else 0)) H) cInt := by
  intro Wx σ H al T L xs ws Q r q h
  unfold cInt at h
  split at h
  · obtain ⟨v, rfl, q1⟩ := rps_1 q
    exact .inl ⟨_, by rw [dq_int (rp_d q1)], gok r h (.d (.int _))⟩
  · obtain ⟨v, rfl, q1⟩ := rps_1 q
    exact .inr ⟨_, by rw [dq_bl (rp_d q1)], gok r h (.d (.int _))⟩
  · exact h.elim
def cStr : List Va → LH → Res Va := fun ws L => match ws with
  | [.d (.int i)] => if i.natAbs.log2 < 1920 then .ok (.d (.str (toString i))) L else .stuck
  | _ => .stuck
theorem ok_str : OkC X (fun xs H Q => ∃ i, xs = [.int i] ∧ i.natAbs.log2 < 1920 ∧ Q (.str (toString i)) H) cStr := by
  intro Wx σ H al T L xs ws Q r q h
  unfold cStr at h
  split at h
  · obtain ⟨v, rfl, q1⟩ := rps_1 q
    split at h
    · exact ⟨_, by rw [dq_int (rp_d q1)], by assumption, gok r h (.d (.str _))⟩
    · exact h.elim
  · exact h.elim
/-! ### list(x), tuple(x) -/
def cList : List Va → LH → Res Ob := fun ws L => match ws with
  | [w] => match w.seq L with
    | some us => .ok (.lst us) L
    | none => .stuck
  | _ => .stuck
theorem ok_list : OkCF X (fun xs H Q => ∃ p ys, xs = [.ref p] ∧ (SqL X.K H p ys ∨ SqT X.K H p ys) ∧ ∀ l, H l = none → Q (.ref l) (upd H l (.lst ys))) cList := by
  intro Wx σ H al T L xs ws Q r q h
  unfold cList at h
  split at h
  · obtain ⟨v, rfl, q1⟩ := rps_1 q
    split at h
    · rename_i us e
      obtain ⟨a, vs, rfl, sq, rr⟩ := seq_ok r q1 e
      exact ⟨a, vs, rfl, sq, fnew r h fun p hp e m => ⟨_, e, Rps.le m (ALe.refl _) rr⟩⟩
    · exact h.elim
  · exact h.elim
def cTuple : List Va → LH → Res Va := fun ws L => match ws with
  | [.d (.tuple xs)] => .ok (.d (.tuple xs)) L
  | [w] => match w.items L with
    | some us => .ok (mkTup us) L
    | none => .stuck
  | _ => .stuck
theorem ok_tuple : OkC X (fun xs H Q => ∃ p ys, xs = [.ref p] ∧ ((SqL X.K H p ys ∧ ∀ l, H l = none → Q (.ref l) (upd H l (.tup ys))) ∨ (SqT X.K H p ys ∧ Q (.ref p) H))) cTuple := by
  intro Wx σ H al T L xs ws Q r q h
  unfold cTuple at h
  split at h
  · obtain ⟨v, rfl, q1⟩ := rps_1 q
    obtain ⟨a, vs, rfl, e1, d1⟩ := dq_tup (rp_d q1)
    exact ⟨a, vs, rfl, .inr ⟨SqT.of (of_mask e1).2, gok r h q1⟩⟩
  · obtain ⟨v, rfl, q1⟩ := rps_1 q
    split at h
    · rename_i us e
      obtain ⟨a, vs, rfl, f1, d1⟩ := items_ok r q1 e
      exact ⟨a, vs, rfl, .inl ⟨SqL.of f1, gnew r h fun p hp e m e' => rp_mkTup e' (Rps.le m (ALe.refl _) d1)⟩⟩
    · exact h.elim
  · exact h.elim
/-! ### sorted of ints -/
def sortI (ns : List Int) : List Int := ns.mergeSort (fun a b => decide (a ≤ b))
theorem sortI_perm (ns : List Int) : (sortI ns).Perm ns := List.mergeSort_perm ns _
theorem sortI_sorted (ns : List Int) : (sortI ns).Pairwise (· ≤ ·) := by
  have := List.pairwise_mergeSort (le := fun a b : Int => decide (a ≤ b)) (fun a b c h1 h2 => by simp at *; omega) (fun a b => by simp; omega) ns
  exact this.imp fun h => by simpa using h
theorem sorted_unique : ∀ {a b : List Int}, a.Perm b → a.Pairwise (· ≤ ·) → b.Pairwise (· ≤ ·) → a = b := by
  intro a b h h1 h2
  exact h.eq_of_pairwise (fun x y _ _ p q => by omega) h1 h2
def cSorted : List Va → LH → Res Ob := fun ws L => match ws with
  | [w] => match w.items L with
    | some us => match vaInts us with
      | some ns => .ok (.lst ((sortI ns).map fun i => .d (.int i))) L
      | none => .stuck
    | none => .stuck
  | _ => .stuck
theorem rps_ints {K : PySem.W.Frag} {mg : Str → Option Value} {M : Hp} {al : List Addr} : ∀ ns : List Int, Rps K mg M al (ns.map V.int) (ns.map fun i => Va.d (.int i))
  | [] => .nil
  | n :: r => .cons (.d (.int n)) (rps_ints r)
theorem ok_sorted : OkCF X (rSortedI X.K) cSorted := by
  intro Wx σ H al T L xs ws Q r q h
  unfold cSorted at h
  split at h
  · obtain ⟨v, rfl, q1⟩ := rps_1 q
    split at h
    · rename_i us e
      obtain ⟨a, vs, rfl, f1, d1⟩ := items_ok r q1 e
      split at h
      · rename_i ns en
        have := ints_ok d1 en
        subst this
        refine ⟨a, ns, rfl, SqL.of f1, fun ns' p hp hs hn => ?_⟩
        have : ns' = sortI ns := sorted_unique (hp.trans (sortI_perm ns).symm) hs (sortI_sorted ns)
        subst this
        exact fnew (o := .lst ((sortI ns).map V.int)) r h (fun p hp e m => ⟨_, e, rps_ints _⟩) p hn
      · exact h.elim
    · exact h.elim
  · exact h.elim
end
end L2.HW
/-! SemI: cells written; targets; statements. -/
namespace L2.HW
open PySem PySem.Spec PyProof.Rows
section
variable {K : PySem.W.Frag} {mg : Str → Option Value} {H : Hp} {al T : List Addr} {L : LH}
theorem mask_in {a : Addr} {o : HO} {P : List Addr} (h : a ∈ P) : mask (upd H a o) P = mask H P := by
  funext b
  unfold mask
  by_cases q : b ∈ P
  · rw [if_pos q, if_pos q]
  · rw [if_neg q, if_neg q, upd_ne]
    rintro rfl
    exact q h
/-- a cell is written -/
theorem Rel.write (r : Rel K mg H al T L) {n : Nat} {a : Addr} {ob ob' : Ob} {o : HO} (e1 : al[n]? = some a) (e2 : L[n]? = some (some ob)) (q : ObR K mg (mask H (al ++ T)) al (upd H a o) a ob') : Stp K mg H al T L (upd H a o) al T (L.set n (some ob')) := by
  have ha : a ∈ al := List.mem_of_getElem? e1
  have m : mask (upd H a o) (al ++ T) = mask H (al ++ T) := mask_in (List.mem_append_left _ ha)
  have hn : n < L.length := (List.getElem?_eq_some_iff.mp e2).1
  refine ⟨⟨by simp [r.len], r.nd, r.dis, fun b h => ?_, fun k ob1 e => ?_⟩, ⟨[], by simp, fun _ z => nomatch z⟩, ⟨[], by simp, fun _ z => nomatch z⟩, fun b u e z => ?_, fun b e => ?_, fun k e => ?_, fun k ob1 e => ?_⟩
  · by_cases z : b = a
    · subst z; rw [upd_same]; simp
    · rw [upd_ne z]; exact r.trk b h
  · rw [m]
    by_cases z : k = n
    · subst z
      rw [List.getElem?_set_self hn] at e
      cases e
      exact ⟨a, e1, q⟩
    · rw [List.getElem?_set_ne (Ne.symm z)] at e
      obtain ⟨b, e3, q3⟩ := r.cell k ob1 e
      have : b ≠ a := by
        rintro rfl
        obtain ⟨h1, h2⟩ := List.getElem?_eq_some_iff.mp e1
        obtain ⟨h3, h4⟩ := List.getElem?_eq_some_iff.mp e3
        exact z ((List.getElem_inj r.nd).mp (h4.trans h2.symm))
      exact ⟨b, e3, ObR.le (Le.refl _) (ALe.refl _) (fun _ z => by rw [upd_ne this]; exact z) q3⟩
  · rw [upd_ne]
    · exact e
    · rintro rfl
      exact z ⟨n, ob, e1, e2⟩
  · by_cases z : b = a
    · subst z; rw [upd_same]; simp
    · rw [upd_ne z]; exact e
  · by_cases z : k = n
    · subst z; rw [e2] at e; cases e
    · rw [List.getElem?_set_ne (Ne.symm z)]; exact e
  · by_cases z : k = n
    · subst z; rw [List.getElem?_set_self hn]; exact ⟨_, rfl⟩
    · rw [List.getElem?_set_ne (Ne.symm z)]; exact ⟨_, e⟩
end
/-! ### results of statements -/
inductive Out where
  | nx (env : En) (L : LH)
  | rt (w : Va) (L : LH)
  | rf (o : Ob) (L : LH)
  | bk (env : En) (L : LH)
  | ct (env : En) (L : LH)
  | exc (c : Str) (f : Option PyData) (env : En) (L : LH)
  | stuck
/-- an expression, then what follows in the same frame -/
def Res.then {α : Type} (r : Res α) (env : En) (k : α → LH → Out) : Out := match r with
  | .ok a L => k a L
  | .exc c f L => .exc c f env L
  | .stuck => .stuck
@[simp] theorem then_ok {α : Type} (a : α) (L : LH) (env : En) (k : α → LH → Out) : (Res.ok a L).then env k = k a L := (rfl)
@[simp] theorem then_exc {α : Type} (c : Str) (f : Option PyData) (L : LH) (env : En) (k : α → LH → Out) : (Res.exc c f L : Res α).then env k = .exc c f env L := (rfl)
@[simp] theorem then_stuck {α : Type} (env : En) (k : α → LH → Out) : (Res.stuck : Res α).then env k = .stuck := (rfl)
abbrev SFn := En → LH → Out
def SPost (X : Cx) (Wx : WX) (H : Hp) (al T : List Addr) (L : LH) (r : Out) (D : Ends) : Prop :=
  match r with
  | .nx env' L' => ∀ σ' H' al', Stp X.K X.mg H al T L H' al' T L' → Conf X.K X.mg σ' H' env' L' al' T → D.nx σ' H'
  | .rt w L' => ∀ v H' al', Stp X.K X.mg H al T L H' al' T L' → RV X (mask H' (al' ++ T)) al' v w → D.rt v H'
  | .rf o L' => ∀ a H' al', H a = none → Stp X.K X.mg H al T L H' al' (a :: T) L' → ObR X.K X.mg (mask H' (al' ++ (a :: T))) al' H' a o → D.rt (.ref a) H'
  | .bk env' L' => ∀ σ' H' al', Stp X.K X.mg H al T L H' al' T L' → Conf X.K X.mg σ' H' env' L' al' T → D.bk σ' H'
  | .ct env' L' => ∀ σ' H' al', Stp X.K X.mg H al T L H' al' T L' → Conf X.K X.mg σ' H' env' L' al' T → D.ct σ' H'
  | .exc c f env' L' => ∀ cls d σ' H' al', Stp X.K X.mg H al T L H' al' T L' → Conf X.K X.mg σ' H' env' L' al' T → ExR X.mg (mask H' (al' ++ T)) c f cls d → Wx cls d σ' H'
  | .stuck => False
def SRdg (X : Cx) (Wx : WX) (f : SFn) : TS := fun D σ H => ∃ env L al T, Conf X.K X.mg σ H env L al T ∧ SPost X Wx H al T L (f env L) D
def SS (X : Cx) (Wx : WX) (st : Stmt) (f : SFn) : Prop := PS X st (SRdg X Wx f)
def SB (X : Cx) (Wx : WX) (st : List Stmt) (f : SFn) : Prop := PSs X st (SRdg X Wx f)
section
variable {X : Cx} {Wx : WX} {σ : St} {H H1 : Hp} {al al1 T : List Addr} {L L1 : LH}
theorem Stp.back {K : PySem.W.Frag} {mg : Str → Option Value} {T1 : List Addr} (s : Stp K mg H al T L H1 al1 T1 L1) {b : Addr} (h : H1 b = none) : H b = none := by
  cases e : H b with
  | none => rfl
  | some o => exact absurd h (s.stay b (by rw [e]; simp))
theorem SPost.on (hl : al.length = L.length) (s : Stp X.K X.mg H al T L H1 al1 T L1) {r : Out} {D : Ends} (h : SPost X Wx H al T L r D) : SPost X Wx H1 al1 T L1 r D := by
  cases r with
  | nx env' L' => exact fun σ' H' al' t c => h σ' H' al' (Stp.trans hl s t) c
  | rt w L' => exact fun v H' al' t c => h v H' al' (Stp.trans hl s t) c
  | rf o L' => exact fun a H' al' ha t c => h a H' al' (s.back ha) (Stp.trans hl s t) c
  | bk env' L' => exact fun σ' H' al' t c => h σ' H' al' (Stp.trans hl s t) c
  | ct env' L' => exact fun σ' H' al' t c => h σ' H' al' (Stp.trans hl s t) c
  | exc c f env' L' => exact fun cls d σ' H' al' t c => h cls d σ' H' al' (Stp.trans hl s t) c
  | stuck => exact h
/-- an expression in a statement -/
theorem sseq {α β : Type} {R : Hp → List Addr → β → α → Prop} {env : En} {f : En → LH → Res α} {k : α → LH → Out} {D : Ends} {Q' : β → Hp → Prop}
    (c : Conf X.K X.mg σ H env L al T) (h : SPost X Wx H al T L ((f env L).then env k) D)
    (hk : ∀ b H1 a L1 al1, Conf X.K X.mg σ H1 env L1 al1 T → Stp X.K X.mg H al T L H1 al1 T L1 → R (mask H1 (al1 ++ T)) al1 b a → SPost X Wx H1 al1 T L1 (k a L1) D → Q' b H1) : Rdg X Wx R f σ H Q' := by
  refine ⟨env, L, al, T, c, ?_⟩
  revert h
  generalize f env L = r
  intro g
  cases r with
  | stuck => exact g
  | exc c' f L1 => exact fun cls d H' al' s e => g cls d σ H' al' s (c.stp s) e
  | ok b L1 => exact fun b' H1 al1 s1 q1 => hk b' H1 b L1 al1 (c.stp s1) s1 q1 (SPost.on c.rel.len s1 g)
theorem sok (c : Conf X.K X.mg σ H env L al T) {D : Ends} (h : SPost X Wx H al T L (.nx env L) D) : D.nx σ H := h σ H al (Stp.refl c.rel) c
/-! ### blocks -/
def sNil : SFn := fun env L => .nx env L
def sSeq (f g : SFn) : SFn := fun env L => match f env L with
  | .nx env1 L1 => g env1 L1
  | o => o
theorem sb_nil : SB X Wx [] sNil := PSs.imp pss_nil fun D σ H ⟨env, L, al, T, c, h⟩ => sok c h
theorem sb_cons {st : Stmt} {rest : List Stmt} {f g : SFn} (h1 : SS X Wx st f) (h2 : SB X Wx rest g) : SB X Wx (st :: rest) (sSeq f g) := by
  refine PSs.imp (pss_cons h1 h2) ?_
  rintro D σ H ⟨env, L, al, T, c, h⟩
  refine ⟨env, L, al, T, c, ?_⟩
  unfold sSeq at h
  revert h
  generalize f env L = r
  intro h
  cases r with
  | nx env1 L1 => exact fun σ' H' al' s c' => ⟨env1, L1, al', T, c', SPost.on c.rel.len s h⟩
  | rt w L' => exact h
  | rf o L' => exact h
  | bk env' L' => exact h
  | ct env' L' => exact h
  | exc c' f' env' L' => exact h
  | stuck => exact h
theorem sb_one {st : Stmt} {f : SFn} (h1 : SS X Wx st f) : SB X Wx [st] f := PSs.imp (pss_one h1) fun D σ H h => h
/-! ### small statements -/
def sPass : SFn := sNil
def sBreak : SFn := fun env L => .bk env L
def sCont : SFn := fun env L => .ct env L
theorem ss_pass {pos : Pos} : SS X Wx (.Pass pos) sPass := PS.imp ps_pass fun D σ H ⟨env, L, al, T, c, h⟩ => sok c h
theorem ss_break {pos : Pos} : SS X Wx (.Break pos) sBreak := PS.imp ps_break fun D σ H ⟨env, L, al, T, c, h⟩ => h σ H al (Stp.refl c.rel) c
theorem ss_cont {pos : Pos} : SS X Wx (.Continue pos) sCont := PS.imp ps_continue fun D σ H ⟨env, L, al, T, c, h⟩ => h σ H al (Stp.refl c.rel) c
def sExpr (f : EF) : SFn := fun env L => (f env L).then env fun _ L1 => .nx env L1
theorem ss_expr {e : Expr} {pos : Pos} {f : EF} (he : SE X Wx e f) (hs : swapsWith e none pos.line X.env = pure false := by rfl) : SS X Wx (.Expr e pos) (sExpr f) := by
  refine PS.imp (ps_expr he hs) ?_
  rintro D σ H ⟨env, L, al, T, c, h⟩
  exact sseq (R := RV X) c h fun v H1 w L1 al1 c1 s1 r1 h1 => sok c1 h1
def sRet (f : EF) : SFn := fun env L => (f env L).then env fun w L1 => .rt w L1
theorem ss_ret {e : Expr} {pos : Pos} {f : EF} (he : SE X Wx e f) : SS X Wx (.Return (some e) pos) (sRet f) := by
  refine PS.imp (ps_ret he) ?_
  rintro D σ H ⟨env, L, al, T, c, h⟩
  exact sseq (R := RV X) c h fun v H1 w L1 al1 c1 s1 r1 h1 => h1 v H1 al1 (Stp.refl c1.rel) r1
def sRetN : SFn := fun _ L => .rt (.d .none) L
theorem ss_retN {pos : Pos} : SS X Wx (.Return none pos) sRetN := PS.imp ps_retN fun D σ H ⟨env, L, al, T, c, h⟩ => h .non H al (Stp.refl c.rel) (.d .non)
def sRetF (g : En → LH → Res Ob) : SFn := fun env L => (g env L).then env fun o L1 => .rf o L1
theorem ss_retF {e : Expr} {pos : Pos} {g : En → LH → Res Ob} (he : SF X Wx e g) : SS X Wx (.Return (some e) pos) (sRetF g) := by
  refine PS.imp (ps_ret he) ?_
  rintro D σ H ⟨env, L, al, T, c, h⟩
  refine ⟨env, L, al, T, c, ?_⟩
  unfold sRetF at h
  revert h
  generalize g env L = r
  intro h
  cases r with
  | stuck => exact h
  | exc c' f L1 => exact fun cls d H' al' s e => h cls d σ H' al' s (c.stp s) e
  | ok o L1 => exact h
def sIf (t : En → LH → Res Bool) (f g : SFn) : SFn := fun env L => (t env L).then env fun b L1 => if b then f env L1 else g env L1
theorem ss_if {e : Expr} {a b : List Stmt} {pos : Pos} {t : En → LH → Res Bool} {f g : SFn} (ht : ST X Wx e t) (ha : SB X Wx a f) (hb : SB X Wx b g) : SS X Wx (.If e a b pos) (sIf t f g) := by
  refine PS.imp (ps_if ht ha hb) ?_
  rintro D σ H ⟨env, L, al, T, c, h⟩
  refine sseq (R := RB) c h fun v H1 w L1 al1 c1 s1 r1 h1 => ?_
  obtain rfl : v = w := r1
  cases v with
  | true => exact ⟨env, L1, al1, T, c1, h1⟩
  | false => exact ⟨env, L1, al1, T, c1, h1⟩
def sSet (i : Nat) (f : EF) : SFn := fun env L => (f env L).then env fun w L1 => .nx (env.set i (some w)) L1
theorem ss_set {i : Nat} {x : Str} {e : Expr} {pos pos' : Pos} {f : EF} (hN : X.N.Nodup) (hi : X.N[i]? = some x) (hx : Loc X.env.scope x) (he : SE X Wx e f) (hs : swapsWith e (some (.Name x pos')) pos.line X.env = pure false := by rfl)
    (hf : X.fn x = true ∨ X.env.scope.names.lookup x = some .local := by first | exact .inl rfl | exact .inr rfl | assumption) : SS X Wx (.Assign [.Name x pos'] e pos) (sSet i f) := by
  refine PS.imp (ps_set hN hi hx he hs hf) ?_
  rintro D σ H ⟨env, L, al, T, c, h⟩
  exact sseq (R := RV X) c h fun v H1 w L1 al1 c1 s1 r1 h1 => sok (c1.put r1) (SPost.on c1.rel.len (Stp.refl c1.rel) h1)
/-- x op= e of a name that holds an int -/
def sAug (i : Nat) (g : Int → Int → Int) (f : EF) : SFn := fun env L => match env[i]? with
  | some (some (.d (.int a))) => (f env L).then env fun w L1 => match w with
    | .d (.int b) => .nx (env.set i (some (.d (.int (g a b))))) L1
    | _ => .stuck
  | _ => .stuck
theorem ss_aug {i : Nat} {x : Str} {e : Expr} {op : Operator} {g : Int → Int → Int} {pos pos' : Pos} {f : EF} (hN : X.N.Nodup) (hi : X.N[i]? = some x) (hx : Loc X.env.scope x) (he : SE X Wx e f) (ho : PIp X op (ipI g))
    (hf : X.fn x = true ∨ X.env.scope.names.lookup x = some .local := by first | exact .inl rfl | exact .inr rfl | assumption) : SS X Wx (.AugAssign (.Name x pos') op e pos) (sAug i g f) := by
  refine PS.imp (ps_aug hN hi hx he ho hf) ?_
  rintro D σ H ⟨env, L, al, T, c, h⟩
  unfold sAug at h
  split at h
  · rename_i a ea
    obtain ⟨v0, h1, h2⟩ := c.slot i _ ea
    refine ⟨v0, h1, sseq (R := RV X) c h fun v H1 w L1 al1 c1 s1 r1 h3 => ?_⟩
    split at h3
    · rename_i b
      refine ⟨a, b, dq_int (rp_d h2), dq_int (rp_d r1), ?_⟩
      exact sok (c1.put (.d (.int _))) (SPost.on c1.rel.len (Stp.refl c1.rel) h3)
    · exact h3.elim
  · exact h.elim
/-! ### targets -/
def TPost (X : Cx) (sl : List Nat) (σ : St) (H : Hp) (al T : List Addr) (L : LH) (r : Res En) (Q : St → Hp → Prop) : Prop := match r with
  | .ok env' L' => ∀ σ' H' al', Stp X.K X.mg H al T L H' al' T L' → Conf X.K X.mg σ' H' env' L' al' T → Agr sl σ σ' → Q σ' H'
  | _ => False
def SG (X : Cx) (sl : List Nat) (tg : Expr) (g : Va → En → LH → Res En) : Prop := PG X tg fun v σ H Q => ∃ w env L al T, Conf X.K X.mg σ H env L al T ∧ RV X (mask H (al ++ T)) al v w ∧ TPost X sl σ H al T L (g w env L) Q
def SGs (X : Cx) (sl : List Nat) (ts : List Expr) (g : List Va → En → LH → Res En) : Prop := PGs X ts fun vs σ H Q => ∃ ws env L al T, Conf X.K X.mg σ H env L al T ∧ RVs X (mask H (al ++ T)) al vs ws ∧ TPost X sl σ H al T L (g ws env L) Q
theorem PG.imp {tg : Expr} {t t' : TG} (h : PG X tg t) (k : ∀ v σ H Q, t' v σ H Q → t v σ H Q) : PG X tg t' := ⟨fun pins s σ H v u Q I r q => h.run pins s σ H v u Q I r (k v σ H Q q)⟩
theorem PGs.imp {tg : List Expr} {t t' : TGs} (h : PGs X tg t) (k : ∀ v σ H Q, t' v σ H Q → t v σ H Q) : PGs X tg t' := ⟨fun pins s σ H v u Q I r q => h.run pins s σ H v u Q I r (k v σ H Q q)⟩
theorem PG.or {tg : Expr} {t u : TG} (h : PG X tg t) (k : PG X tg u) : PG X tg (fun v σ H Q => t v σ H Q ∨ u v σ H Q) := ⟨fun pins s σ H v w Q I r q => by
  rcases q with q | q
  · exact h.run pins s σ H v w Q I r q
  · exact k.run pins s σ H v w Q I r q⟩
theorem TPost.on (hl : al.length = L.length) (s : Stp X.K X.mg H al T L H1 al1 T L1) {sl : List Nat} {r : Res En} {Q : St → Hp → Prop} (h : TPost X sl σ H al T L r Q) : TPost X sl σ H1 al1 T L1 r Q := by
  cases r with
  | ok env' L' => exact fun σ' H' al' t c => h σ' H' al' (Stp.trans hl s t) c
  | exc c f L' => exact h
  | stuck => exact h
def tN (i : Nat) : Va → En → LH → Res En := fun w env L => .ok (env.set i (some w)) L
theorem sg_name {i : Nat} {x : Str} {pos : Pos} (hN : X.N.Nodup) (hi : X.N[i]? = some x) (hx : Loc X.env.scope x) (hf : X.fn x = true ∨ X.env.scope.names.lookup x = some .local := by first | exact .inl rfl | exact .inr rfl | assumption) : SG X [i] (.Name x pos) (tN i) :=
  PG.imp (pg_name hN hi hx hf) fun v σ H Q ⟨w, env, L, al, T, c, r, h⟩ => h _ H al (Stp.refl c.rel) (c.put r) (Agr.put i _ σ)
def tgNil : List Va → En → LH → Res En := fun ws env L => match ws with
  | [] => .ok env L
  | _ => .stuck
def tgCons (f : Va → En → LH → Res En) (g : List Va → En → LH → Res En) : List Va → En → LH → Res En := fun ws env L => match ws with
  | w :: r => (f w env L).bind fun env1 L1 => g r env1 L1
  | [] => .stuck
theorem sgs_nil : SGs X [] [] tgNil := PGs.imp pgs_nil fun v σ H Q ⟨w, env, L, al, T, c, r, h⟩ => by
  unfold tgNil at h
  split at h
  · cases r
    exact ⟨rfl, h _ H al (Stp.refl c.rel) c (Agr.refl _ _)⟩
  · exact h.elim
theorem sgs_cons {e : Expr} {es : List Expr} {f : Va → En → LH → Res En} {g : List Va → En → LH → Res En} {sl sl' : List Nat} (h1 : SG X sl e f) (h2 : SGs X sl' es g) (hs : (assignEach (e :: es) X.env).map (·.2) = assign e X.env :: (assignEach es X.env).map (·.2) := by rfl) : SGs X (sl ++ sl') (e :: es) (tgCons f g) :=
  PGs.imp (pgs_cons h1 h2 hs) fun vs σ H Q ⟨ws, env, L, al, T, c, r, h⟩ => by
    unfold tgCons at h
    split at h
    · rename_i w rest
      cases r with
      | cons ra rb =>
        refine ⟨_, _, rfl, w, env, L, al, T, c, ra, ?_⟩
        revert h
        generalize f w env L = r1
        intro h
        cases r1 with
        | ok env1 L1 =>
          intro σ' H' al' s c' ag
          refine ⟨rest, env1, L1, al', T, c', s.rps rb, ?_⟩
          have h := TPost.on c.rel.len s h
          revert h
          show TPost X (sl ++ sl') σ H' al' T L1 (g rest env1 L1) Q → TPost X sl' σ' H' al' T L1 (g rest env1 L1) Q
          generalize g rest env1 L1 = r2
          intro h
          cases r2 with
          | ok env2 L2 => exact fun σ2 H2 al2 s2 c2 ag2 => h σ2 H2 al2 s2 c2 (ag.trans ag2)
          | exc _ _ _ => exact h
          | stuck => exact h
        | exc _ _ _ => exact h
        | stuck => exact h
    · exact h.elim
def tTupT (n : Nat) (g : List Va → En → LH → Res En) : Va → En → LH → Res En := fun w env L => match w.seq L with
  | some ws => if ws.length = n then g ws env L else .stuck
  | none => .stuck
theorem sg_tup {es : List Expr} {k : Nat} {pos : Pos} {g : List Va → En → LH → Res En} {n : Nat} {sl : List Nat} (hc : X.calm = true) (h : SGs X sl es g) (hn : (assignEach es X.env).length = n := by rfl) (hst : (assignEach es X.env).findIdx? (·.1) = none := by rfl) : SG X sl (.Tuple es k pos) (tTupT n g) :=
  PG.imp (PG.or (pg_tup hc h hn hst) (pg_lst hc h hn hst)) fun v σ H Q ⟨w, env, L, al, T, c, r, q⟩ => by
    unfold tTupT at q
    split at q
    · rename_i ws e
      obtain ⟨a, vs, rfl, sq, rr⟩ := seq_ok c.rel r e
      have l := Paired.length rr
      split at q
      · rename_i hl
        rcases sq with sq | sq
        · exact .inr ⟨a, vs, rfl, sq, l.trans hl, ws, env, L, al, T, c, rr, q⟩
        · exact .inl ⟨a, vs, rfl, sq, l.trans hl, ws, env, L, al, T, c, rr, q⟩
      · exact q.elim
    · exact q.elim
def sAsg (f : EF) (g : Va → En → LH → Res En) : SFn := fun env L => (f env L).then env fun w L1 => match g w env L1 with
  | .ok env1 L2 => .nx env1 L2
  | _ => .stuck
theorem ss_asg {tg e : Expr} {pos : Pos} {f : EF} {g : Va → En → LH → Res En} {sl : List Nat} (he : SE X Wx e f) (hg : SG X sl tg g) (hs : swapsWithSole [tg] e pos.line X.env = pure false := by rfl) (hw : swappedStores [tg] e X.env = pure none := by rfl)
    (h1 : (assignEach [tg] X.env).map (·.2) = [assign tg X.env] := by rfl) : SS X Wx (.Assign [tg] e pos) (sAsg f g) := by
  refine PS.imp (ps_asg he hg hs hw h1) ?_
  rintro D σ H ⟨env, L, al, T, c, h⟩
  refine sseq (R := RV X) c h fun v H1 w L1 al1 c1 s1 r1 h2 => ?_
  refine ⟨w, env, L1, al1, T, c1, r1, ?_⟩
  revert h2
  generalize g w env L1 = r2
  intro h2
  cases r2 with
  | ok env1 L2 => exact fun σ' H' al' s c' _ => h2 σ' H' al' s c'
  | exc _ _ _ => exact h2
  | stuck => exact h2
/-- a, b = e1, e2 with plain local names -/
def sPar (i j : Nat) (fs : En → LH → Res (List Va)) : SFn := fun env L => (fs env L).then env fun ws L1 => match ws with
  | [w, u] => .nx ((env.set i (some w)).set j (some u)) L1
  | _ => .stuck
theorem ss_par {i j : Nat} {x y : Str} {a b : Expr} {px py pt pos : Pos} {kt : Nat} {k2 : Nat} {pt2 : Pos} {fs : En → LH → Res (List Va)} (hc : X.calm = true) (hN : X.N.Nodup) (hi : X.N[i]? = some x) (hj : X.N[j]? = some y) (hij : i ≠ j)
    (hx : X.env.scope.names.lookup x = some .local) (hy : X.env.scope.names.lookup y = some .local) (ha : SA X Wx [a, b] fs)
    (hw : swappedStores [.Tuple [.Name x px, .Name y py] kt pt] (.Tuple [a, b] k2 pt2) X.env = pure (some [x, y]))
    (hs : swapsWithSole [.Tuple [.Name x px, .Name y py] kt pt] (.Tuple [a, b] k2 pt2) pos.line X.env = pure false := by rfl) :
    SS X Wx (.Assign [.Tuple [.Name x px, .Name y py] kt pt] (.Tuple [a, b] k2 pt2) pos) (sPar i j fs) := by
  refine PS.imp (ps_par hc hN hi hj hij hx hy ha hw hs) ?_
  rintro D σ H ⟨env, L, al, T, c, h⟩
  refine sseq (R := RVs X) c h fun v H1 w L1 al1 c1 s1 r1 h2 => ?_
  split at h2
  · obtain ⟨v, y, rfl, q1, q2⟩ := rps_2 r1
    exact ⟨v, y, rfl, sok ((c1.put q1).put q2) (SPost.on c1.rel.len (Stp.refl c1.rel) h2)⟩
  · exact h2.elim
def sPar3 (i j k : Nat) (fs : En → LH → Res (List Va)) : SFn := fun env L => (fs env L).then env fun ws L1 => match ws with
  | [w, u, z] => .nx (((env.set i (some w)).set j (some u)).set k (some z)) L1
  | _ => .stuck
/-! ### x[i] = e -/
def tIx (f g : EF) : Va → En → LH → Res En := fun v env L => (f env L).bind fun w L1 => (g env L1).bind fun u L2 => match w with
  | .loc n => match L2[n]?, u with
    | some (some (.lst ws)), .d (.int i) => match ixN ws.length i with
      | some j => .ok env (L2.set n (some (.lst (ws.set j v))))
      | none => .stuck
    | some (some (.di ks)), .d (.int i) => if ks.length < sizeLine then .ok env (L2.set n (some (.di (aput ks i v)))) else .stuck
    | some (some (.di [])), .d (.tuple xs) => match intsOf xs with
      | some ns => .ok env (L2.set n (some (.dt [(ns, v)])))
      | none => .stuck
    | some (some (.dt ks)), .d (.tuple xs) => match intsOf xs with
      | some ns => if ks.length < sizeLine then .ok env (L2.set n (some (.dt (aput ks ns v)))) else .stuck
      | none => .stuck
    | _, _ => .stuck
  | _ => .stuck
where
  aput {κ α : Type} [DecidableEq κ] (ks : List (κ × α)) (k : κ) (v : α) : List (κ × α) := if ks.any (fun kv => decide (kv.1 = k)) then ks.map (fun kv => if kv.1 = k then (kv.1, v) else kv) else ks ++ [(k, v)]
end
end L2.HW
namespace L2.HW
open PySem PySem.Spec PyProof.Rows
section
variable {X : Cx} {Wx : WX}
abbrev aput {κ α : Type} [DecidableEq κ] (ks : List (κ × α)) (k : κ) (v : α) : List (κ × α) := tIx.aput ks k v
theorem PSet.or {t u : TSet} (h : PSet X t) (k : PSet X u) : PSet X (fun o i v H Q => t o i v H Q ∨ u o i v H Q) := by
  intro pins s σ H o i v ov iv w Q I r1 r2 r3 q
  rcases q with q | q
  · exact h pins s σ H o i v ov iv w Q I r1 r2 r3 q
  · exact k pins s σ H o i v ov iv w Q I r1 r2 r3 q
def rSetD : TSet := fun o i v H Q => ∃ a H', o = .ref a ∧ DPut H a i v H' ∧ Q H'
theorem set_dict (hu : X.A.units + 1 < cLine) : PSet X rSetD := by
  intro pins s σ H o i v ov iv u Q I ro ri rv h
  obtain ⟨a, H', rfl, g, q⟩ := h
  obtain rfl : ov = Value.ref a := ro
  exact d_setItem hu I g ri rv fun s' I' => ⟨H', I', q⟩
/-- an empty dict takes its first key, a tuple -/
def rSetD0 : TSet := fun o i v H Q => ∃ a b k, o = .ref a ∧ i = .ref b ∧ H a = some (.dK []) ∧ H b = some (.tup (k.map kV)) ∧ Q (upd H a (.dT [(k, v)]))
theorem set_dict0 (hu : X.A.units + 1 < cLine) : PSet X rSetD0 := by
  intro pins s σ H o i v ov iv u Q I ro ri rv h
  obtain ⟨a, b, k, rfl, rfl, h1, h2, q⟩ := h
  obtain rfl : ov = Value.ref a := ro
  obtain ⟨z, y, vs, rk, ob, es, ep, e1, e2, e3, e4, e5, e6⟩ := dk_of I.hok h1
  have hvs : vs = [] := by cases rk; rfl
  subst hvs
  have hes : es.toList = [] := by
    generalize es.toList = el at e5
    cases e5
    rfl
  have I' : Inv X pins σ (upd H a (.dT [])) s := I.write (t' := s.toks) (h' := s.heap) (by rw [h1]; trivial) (.inl rfl) (fun _ _ _ e => e) ⟨_, e1⟩
    ⟨Nat.zero_le _, y, [], .nil, ob, es, ep, e1, e2, e3, by rw [hes]; rfl, List.nodup_nil⟩
  have g : DPut (upd H a (.dT [])) a (.ref b) v (upd (upd H a (.dT [])) a (.dT (putK [] k v))) := DPut.t upd_same (by
    rw [upd_ne]
    · exact h2
    · rintro rfl; rw [h1] at h2; cases h2) (by rw [sizeLine_eq]; decide)
  refine d_setItem hu I' g ri rv fun s' I2 => ⟨_, I2, ?_⟩
  rw [upd_upd]
  exact q
theorem rps_set {K : PySem.W.Frag} {mg : Str → Option Value} {M : Hp} {al : List Addr} {v : V} {w : Va} (q : Rp K mg M al v w) : ∀ {vs : List V} {ws : List Va} (n : Nat), Rps K mg M al vs ws → Rps K mg M al (vs.set n v) (ws.set n w)
  | _, _, _, .nil => .nil
  | _, _, 0, .cons _ b => .cons q b
  | _, _, n + 1, .cons a b => .cons a (rps_set q n b)
theorem put_pair {κ κ' α : Type} [DecidableEq κ] [DecidableEq κ'] {f : κ → κ'} (hf : ∀ a b, f a = f b → a = b) {R : V → α → Prop} {ks : List (κ' × V)} {as : List (κ × α)} (r : Paired (fun (p : κ' × V) (q : κ × α) => p.1 = f q.1 ∧ R p.2 q.2) ks as) (k : κ) {v : V} {w : α} (q : R v w) :
    Paired (fun (p : κ' × V) (q : κ × α) => p.1 = f q.1 ∧ R p.2 q.2) (putK ks (f k) v) (aput as k w) := by
  have hany : (ks.any fun kv => decide (kv.1 = f k)) = as.any fun kv => decide (kv.1 = k) := by
    induction r with
    | nil => rfl
    | @cons p q ps qs h _ ih =>
      rw [List.any_cons, List.any_cons, ih]
      congr 1
      rw [h.1]
      by_cases e : q.1 = k
      · simp [e]
      · have e' : ¬ f q.1 = f k := fun z => e (hf _ _ z)
        rw [decide_eq_false e, decide_eq_false e']
  unfold putK aput tIx.aput
  rw [hany]
  by_cases c : (as.any fun kv => decide (kv.1 = k)) = true
  · rw [if_pos c, if_pos c]
    clear hany c
    induction r with
    | nil => exact .nil
    | @cons p q' ps qs h _ ih =>
      refine .cons ?_ ih
      show ((if p.1 = f k then (p.1, v) else p).1 = f (if q'.1 = k then (q'.1, w) else q').1 ∧ R (if p.1 = f k then (p.1, v) else p).2 (if q'.1 = k then (q'.1, w) else q').2)
      by_cases e : q'.1 = k
      · rw [if_pos e, if_pos (by rw [h.1, e])]
        exact ⟨by rw [h.1], q⟩
      · rw [if_neg e, if_neg (by rw [h.1]; exact fun z => e (hf _ _ z))]
        exact h
  · rw [if_neg c, if_neg c]
    clear hany c
    induction r with
    | nil => exact .cons ⟨rfl, q⟩ .nil
    | cons h _ ih => exact .cons h ih
theorem sg_ix {o i : Expr} {f g : EF} {pos : Pos} (hu : X.A.units + 1 < cLine) (ho : SE X (fun _ _ _ _ => False) o f) (hi : SE X (fun _ _ _ _ => False) i g)
    (ha : ∀ v, assign (.Subscript o i pos) X.env v = (do
      let ov ← holding [v] (eval o X.env)
      let iv ← holding [v, ov] (eval i X.env)
      standAt pos
      holding [v, ov, iv] (setItem ov iv v)
      release [v, ov, iv] []) := by intro _; rfl) : SG X [] (.Subscript o i pos) (tIx f g) := by
  refine PG.imp (pg_sub ho hi (PSet.or set_list (PSet.or (set_dict hu) (set_dict0 hu))) ha) ?_
  rintro v σ H Q ⟨w, env, L, al, T, c, r, h⟩
  unfold tIx at h
  have e1 : GPost X (fun _ _ _ _ => False) σ H al T L (RV X) (f env L) fun o H1 => Rdg X (fun _ _ _ _ => False) (RV X) g σ H1 fun i H2 => (fun o i v H Q => rSetL o i v H Q ∨ rSetD o i v H Q ∨ rSetD0 o i v H Q) o i v H2 fun H3 => Q σ H3 := by
    revert h
    generalize f env L = r1
    intro h
    cases r1 with
    | stuck => exact h
    | exc _ _ _ => exact h.elim
    | ok wo L1 =>
      intro ov H1 al1 s1 ro
      have c1 := c.stp s1
      refine ⟨env, L1, al1, T, c1, ?_⟩
      simp only [Res.bind_ok] at h
      revert h
      generalize g env L1 = r2
      intro h
      cases r2 with
      | stuck => exact h
      | exc _ _ _ => exact h.elim
      | ok wi L2 =>
        intro iv H2 al2 s2 ri
        have c2 := c1.stp s2
        have s12 := Stp.trans c.rel.len s1 s2
        have rv := s12.rp r
        have ro2 := s2.rp ro
        have h3 := TPost.on c.rel.len s12 h
        clear h
        simp only [Res.bind_ok] at h3
        split at h3
        · rename_i n
          cases ro2 with
          | @loc _ a e2 =>
            split at h3
            · rename_i ws i e4
              have ei := dq_int (rp_d ri)
              obtain ⟨a', e3, vs, e5, e6⟩ := c2.rel.cell n _ e4
              rw [e2] at e3; cases e3
              split at h3
              · rename_i j ej
                have st := c2.rel.write (o := .lst (vs.set j v)) (ob' := .lst (ws.set j w)) e2 e4 ⟨_, upd_same, rps_set rv j e6⟩
                exact .inl ⟨a, vs, i, j, rfl, ei, e5, by rw [Paired.length e6]; exact ej, h3 _ _ _ st (c2.stp st) (Agr.refl _ _)⟩
              · exact h3.elim
            · rename_i ks i e4
              have ei := dq_int (rp_d ri)
              obtain ⟨a', e3, vs, e5, e6⟩ := c2.rel.cell n _ e4
              rw [e2] at e3; cases e3
              split at h3
              · rename_i hl
                have st := c2.rel.write (o := .dK (putK vs (Sum.inl i) v)) (ob' := .di (aput ks i w)) e2 e4 ⟨_, upd_same, put_pair (f := (Sum.inl : Int → Key)) inl_inj e6 i rv⟩
                exact .inr (.inl ⟨a, _, rfl, by rw [ei]; exact DPut.k (k := Sum.inl i) e5 (by rw [Paired.length e6]; exact hl), h3 _ _ _ st (c2.stp st) (Agr.refl _ _)⟩)
              · exact h3.elim
            · rename_i xs e4
              obtain ⟨a', e3, vs, e5, e6⟩ := c2.rel.cell n _ e4
              rw [e2] at e3; cases e3
              cases e6
              split at h3
              · rename_i ns en
                rw [intsOf_eq en] at ri
                obtain ⟨b, us, rfl, f1, d1⟩ := dq_tup (rp_d ri)
                have g1 := dq_ints d1
                subst g1
                have st := c2.rel.write (o := .dT [(ns.map Sum.inl, v)]) (ob' := .dt [(ns, w)]) e2 e4 ⟨_, upd_same, .cons ⟨rfl, rv⟩ .nil⟩
                exact .inr (.inr ⟨a, b, ns.map Sum.inl, rfl, rfl, e5, by rw [List.map_map]; exact (of_mask f1).2, h3 _ _ _ st (c2.stp st) (Agr.refl _ _)⟩)
              · exact h3.elim
            · rename_i ks xs e4
              obtain ⟨a', e3, vs, e5, e6⟩ := c2.rel.cell n _ e4
              rw [e2] at e3; cases e3
              split at h3
              · rename_i ns en
                rw [intsOf_eq en] at ri
                obtain ⟨b, us, rfl, f1, d1⟩ := dq_tup (rp_d ri)
                have g1 := dq_ints d1
                subst g1
                split at h3
                · rename_i hl
                  have st := c2.rel.write (o := .dT (putK vs (ns.map Sum.inl) v)) (ob' := .dt (aput ks ns w)) e2 e4 ⟨_, upd_same, put_pair (f := fun ns : List Int => ns.map (Sum.inl : Int → Key)) map_inl_inj e6 ns rv⟩
                  exact .inr (.inl ⟨a, _, rfl, DPut.t (k := ns.map Sum.inl) e5 (by rw [List.map_map]; exact (of_mask f1).2) (by rw [Paired.length e6]; exact hl), h3 _ _ _ st (c2.stp st) (Agr.refl _ _)⟩)
                · exact h3.elim
              · exact h3.elim
            · exact h3.elim
        · exact h3.elim
  exact ⟨env, L, al, T, c, e1⟩
end
end L2.HW
/-! SemJ: what is walked; for, while, list comprehensions. -/
namespace L2.HW
open PySem PySem.Spec PyProof.Rows
section
variable {K : PySem.W.Frag} {mg : Str → Option Value} {H H1 : Hp} {al al1 T T1 : List Addr} {L L1 : LH}
/-! ### a cell is locked, and opened again -/
def lockL (lk : Option Nat) (L : LH) : LH := match lk with
  | some n => L.set n none
  | none => L
/-- the cells behind a walk: the walked one as it was -/
def openL (lk : Option Nat) (L0 L : LH) : LH := match lk with
  | some n => match L0[n]? with
    | some c => L.set n c
    | none => L
  | none => L
@[simp] theorem lockL_none (L : LH) : lockL none L = L := (rfl)
@[simp] theorem openL_none (L0 L : LH) : openL none L0 L = L := (rfl)
theorem Rel.lock (r : Rel K mg H al T L) (lk : Option Nat) : Rel K mg H al T (lockL lk L) := by
  cases lk with
  | none => exact r
  | some n =>
    refine ⟨by simp [lockL, r.len], r.nd, r.dis, r.trk, fun k o e => ?_⟩
    unfold lockL at e
    by_cases z : n = k
    · subst z
      by_cases hn : n < L.length
      · rw [List.getElem?_set_self hn] at e; cases e
      · rw [List.getElem?_eq_none (by simpa using hn)] at e; cases e
    · rw [List.getElem?_set_ne z] at e
      exact r.cell k o e
theorem Conf.lock {σ : St} {env : En} (c : Conf K mg σ H env L al T) (lk : Option Nat) : Conf K mg σ H env (lockL lk L) al T := ⟨c.rel.lock lk, c.len, c.slot⟩
/-- behind the walk -/
theorem Stp.opened (r0 : Rel K mg H al T L) {lk : Option Nat} (s : Stp K mg H al T (lockL lk L) H1 al1 T1 L1) : Stp K mg H al T L H1 al1 T1 (openL lk L L1) := by
  cases lk with
  | none => exact s
  | some n =>
    simp only [openL]
    cases e0 : L[n]? with
    | none =>
      have : lockL (some n) L = L := by
        unfold lockL
        apply List.ext_getElem?
        intro k
        by_cases z : n = k
        · subst z
          rw [e0, List.getElem?_eq_none]
          have := List.getElem?_eq_none_iff.mp e0
          simpa using this
        · rw [List.getElem?_set_ne z]
      rw [this] at s
      simpa [e0] using s
    | some c =>
      have hn : n < L.length := (List.getElem?_eq_some_iff.mp e0).1
      have lkn : (lockL (some n) L)[n]? = some none := by unfold lockL; rw [List.getElem?_set_self hn]
      have l1n := s.lck n lkn
      have hn1 : n < L1.length := (List.getElem?_eq_some_iff.mp l1n).1
      have alvS : ∀ b, Alv al (lockL (some n) L) b → Alv al L b := fun b ⟨k, o, e1, e2⟩ => ⟨k, o, e1, by
        unfold lockL at e2
        by_cases z : n = k
        · subst z; rw [List.getElem?_set_self hn] at e2; cases e2
        · rw [List.getElem?_set_ne z] at e2; exact e2⟩
      obtain ⟨be, eb, fb⟩ := s.ext
      simp only
      refine ⟨⟨by simp [s.rel.len], s.rel.nd, s.rel.dis, s.rel.trk, fun k o e => ?_⟩, s.ext, s.text, fun b u e z => s.frame b u e fun q => z (alvS b q), s.stay, fun k e => ?_, fun k o e => ?_⟩
      · by_cases z : n = k
        · subst z
          rw [List.getElem?_set_self hn1] at e
          cases e
          obtain ⟨a, e1, q⟩ := r0.cell n o e0
          refine ⟨a, s.ale _ _ e1, ObR.le s.le s.ale (fun u h => s.frame a u h fun ⟨k, o', e2, e3⟩ => ?_) q⟩
          have : k = n := by
            obtain ⟨h1, h2⟩ := List.getElem?_eq_some_iff.mp e1
            obtain ⟨h3, h4⟩ := List.getElem?_eq_some_iff.mp e2
            exact (List.getElem_inj r0.nd).mp (h4.trans h2.symm)
          subst this
          rw [lkn] at e3; cases e3
        · rw [List.getElem?_set_ne z] at e
          exact s.rel.cell k o e
      · by_cases z : n = k
        · subst z
          rw [List.getElem?_set_self hn1]
          rw [e0] at e; cases e; rfl
        · rw [List.getElem?_set_ne z]
          exact s.lck k (by unfold lockL; rw [List.getElem?_set_ne z]; exact e)
      · by_cases z : n = k
        · subst z
          rw [List.getElem?_set_self hn1]
          rw [e0] at e; cases e; exact ⟨_, rfl⟩
        · rw [List.getElem?_set_ne z]
          exact s.alv k o (by unfold lockL; rw [List.getElem?_set_ne z]; exact e)
/-- what is held is written -/
theorem Stp.updT {D : Addr} {o : HO} (hD : H D = none) (s : Stp K mg H al T L H1 al1 (D :: T) L1) : Stp K mg H al T L (upd H1 D o) al1 (D :: T) L1 := by
  have r := s.rel
  have m : mask (upd H1 D o) (al1 ++ (D :: T)) = mask H1 (al1 ++ (D :: T)) := mask_in (by simp)
  refine ⟨⟨r.len, r.nd, r.dis, fun b h => ?_, fun k ob e => ?_⟩, s.ext, s.text, fun b u e z => ?_, fun b e => ?_, s.lck, s.alv⟩
  · by_cases z : b = D
    · subst z; rw [upd_same]; simp
    · rw [upd_ne z]; exact r.trk b h
  · rw [m]
    obtain ⟨a, e1, q⟩ := r.cell k ob e
    have : a ≠ D := by
      rintro rfl
      exact r.dis a (List.mem_of_getElem? e1) List.mem_cons_self
    exact ⟨a, e1, ObR.le (Le.refl _) (ALe.refl _) (fun _ z => by rw [upd_ne this]; exact z) q⟩
  · rw [upd_ne]
    · exact s.frame b u e z
    · rintro rfl; rw [hD] at e; cases e
  · by_cases z : b = D
    · subst z; rw [upd_same]; simp
    · rw [upd_ne z]; exact s.stay b e
end

/-! ### sources -/
/-- the iterator yields ws, from the configuration on -/
def Wlk (K : PySem.W.Frag) (mg : Str → Option Value) (H : Hp) (al T : List Addr) (L : LH) (J : It) (ws : List Va) : Prop :=
  ∀ H1 al1 T1 L1, Stp K mg H al T L H1 al1 T1 L1 → J.stop ws.length H1 ∧ ∀ i w, ws[i]? = some w → J.go i H1 ∧ ∀ x H2, J.yld i H1 x H2 → Stp K mg H1 al1 T1 L1 H2 al1 T1 L1 ∧ Rp K mg (mask H2 (al1 ++ T1)) al1 x w
abbrev Srcf := En → LH → Res (List Va × Option Nat)
def IPost (X : Cx) (Wx : WX) (σ : St) (H : Hp) (al T : List Addr) (L : LH) (r : Res (List Va × Option Nat)) (R : It → Hp → Prop) : Prop := match r with
  | .ok p L1 => ∀ J H1 al1, Stp X.K X.mg H al T L H1 al1 T L1 → Wlk X.K X.mg H1 al1 T (lockL p.2 L1) J p.1 → R J H1
  | .exc c f L1 => ∀ cls d H' al', Stp X.K X.mg H al T L H' al' T L1 → ExR X.mg (mask H' (al' ++ T)) c f cls d → Wx cls d σ H'
  | .stuck => False
/-- a for's iterable: its items, the cell that is walked -/
def SI (X : Cx) (Wx : WX) (tg iter : Expr) (s : Srcf) : Prop := PI X tg iter fun σ H R => ∃ env L al T, Conf X.K X.mg σ H env L al T ∧ IPost X Wx σ H al T L (s env L) R
theorem PI.imp {X : Cx} {tg iter : Expr} {t t' : TI} (h : PI X tg iter t) (k : ∀ σ H R, t' σ H R → t σ H R) : PI X tg iter t' := ⟨fun pins s σ H R I q => h.run pins s σ H R I (k σ H R q)⟩
theorem PI.or {X : Cx} {tg iter : Expr} {t u : TI} (h : PI X tg iter t) (k : PI X tg iter u) : PI X tg iter (fun σ H R => t σ H R ∨ u σ H R) := ⟨fun pins s σ H R I q => by
  rcases q with q | q
  · exact h.run pins s σ H R I q
  · exact k.run pins s σ H R I q⟩
section
variable {X : Cx} {Wx : WX}
/-- a value's items: of a list, a tuple; a cell is locked meanwhile -/
def srcOf (w : Va) (L : LH) : Option (List Va × Option Nat) := match w with
  | .loc n => match L[n]? with
    | some (some (.lst ws)) => some (ws, some n)
    | _ => none
  | .d (.list ds) => some (ds.map .d, none)
  | .d (.tuple ds) => some (ds.map .d, none)
  | .tup ws => some (ws, none)
  | _ => none
def srcV (f : EF) : Srcf := fun env L => (f env L).bind fun w L1 => match srcOf w L1 with
  | some p => .ok p L1
  | none => .stuck
theorem rps_get {K : PySem.W.Frag} {mg : Str → Option Value} {M : Hp} {al : List Addr} : ∀ {vs : List V} {ws : List Va} {i : Nat} {w : Va}, Rps K mg M al vs ws → ws[i]? = some w → ∃ v, vs[i]? = some v ∧ Rp K mg M al v w
  | _, _, _, _, .nil, e => by simp at e
  | _, _, 0, _, .cons a _, e => by simp at e; subst e; exact ⟨_, rfl, a⟩
  | _, _, i + 1, _, .cons _ b, e => by simpa using rps_get (i := i) b (by simpa using e)
theorem seqL_inj {K : PySem.W.Frag} {H : Hp} {a : Addr} {xs ys : List V} (h : Rd H a (.lst xs)) (k : Rd H a (.lst ys)) : xs = ys := by
  rcases h with h | ⟨o, h⟩ <;> rcases k with k | ⟨o', k⟩ <;> rw [h] at k <;> cases k <;> rfl
/-- lists and tuples: the union of both iterables' readings -/
def iSeq (K : PySem.W.Frag) (tl : TE) : TI := fun σ H R => iList K tl σ H R ∨ iTup K tl σ H R
/-- either, chosen behind the run -/
theorem pi_seq {tg l : Expr} {tl : TE} (hl : PE X l tl) : PI X tg l (fun σ H R => tl σ H fun x H1 => ∃ a, x = .ref a ∧ ((∃ xs, SqL X.K H1 a xs) ∧ R (Itl X.K a) H1 ∨ (∃ xs, SqT X.K H1 a xs) ∧ R (Itt X.K a) H1)) := by
  refine ⟨fun pins s σ H R I h => ?_⟩
  refine thn (hl.run pins s σ H _ I h) fun v s1 ⟨x, H1, I1, r1, q1⟩ => ?_
  obtain ⟨a, e, q⟩ := q1
  subst e
  cases r1
  rcases q with ⟨⟨xs, hq⟩, q⟩ | ⟨⟨xs, hq⟩, q⟩
  · obtain ⟨its, rv, p, hz⟩ := I1.list hq
    refine wpAny_pyIter_list p.isList ?_
    refine ⟨s1.heap.objs.size, [s1.heap.objs.size], _, _, H1, rfl, I1.kept (t' := s1.toks) fun b o e => Heap.get?_push_of_some _ e, turn_list a _, ⟨_, Heap.get?_push_size _ rfl, rfl, rfl⟩, fun b hb => ?_, q⟩
    have e : b = s1.heap.objs.size := by simpa using hb
    subst e
    exact I1.fpOk (Nat.le_refl _) (I1.hok.fresh (Nat.le_refl _))
  · obtain ⟨its, rv, p, hz⟩ := I1.tuple hq
    refine wpAny_pyIter_tuple (show s1.heap.IsTuple a its.toArray from p) ?_
    refine ⟨s1.heap.objs.size, [s1.heap.objs.size], _, _, H1, rfl, I1.kept (t' := s1.toks) fun b o e => Heap.get?_push_of_some _ e, turn_tuple a _, ⟨_, Heap.get?_push_size _ rfl, rfl, rfl⟩, fun b hb => ?_, q⟩
    have e : b = s1.heap.objs.size := by simpa using hb
    subst e
    exact I1.fpOk (Nat.le_refl _) (I1.hok.fresh (Nat.le_refl _))
section
variable {K : PySem.W.Frag} {mg : Str → Option Value} {H : Hp} {al T : List Addr} {L : LH}
/-- a list that stands still is walked -/
theorem wlk_lst {a : Addr} {vs : List V} {ws : List Va} (rel : Rel K mg H al T L) (h : H a = some (.lst vs)) (na : ¬ Alv al L a) (r : Rps K mg (mask H (al ++ T)) al vs ws) : Wlk K mg H al T L (Itl K a) ws := by
  intro H1 al1 T1 L1 s
  have h1 := s.frame a _ h na
  have r1 := s.rps r
  refine ⟨⟨vs, SqL.of h1, by rw [Paired.length r1]; exact Nat.le_refl _⟩, fun i w e => ?_⟩
  obtain ⟨v, e2, q⟩ := rps_get r1 e
  refine ⟨⟨vs, v, SqL.of h1, e2⟩, fun x H2 y => ?_⟩
  obtain ⟨rfl, y⟩ := y
  have := y vs (SqL.of h1)
  rw [e2] at this; cases this
  exact ⟨Stp.refl s.rel, q⟩
theorem wlk_tup {a : Addr} {vs : List V} {ws : List Va} (rel : Rel K mg H al T L) (h : mask H (al ++ T) a = some (.tup vs)) (r : Rps K mg (mask H (al ++ T)) al vs ws) : Wlk K mg H al T L (Itt K a) ws := by
  intro H1 al1 T1 L1 s
  have h1 := (of_mask (s.le _ _ h)).2
  have r1 := s.rps r
  refine ⟨⟨vs, SqT.of h1, by rw [Paired.length r1]; exact Nat.le_refl _⟩, fun i w e => ?_⟩
  obtain ⟨v, e2, q⟩ := rps_get r1 e
  refine ⟨⟨vs, v, SqT.of h1, e2⟩, fun x H2 y => ?_⟩
  obtain ⟨rfl, y⟩ := y
  have := y vs (SqT.of h1)
  rw [e2] at this; cases this
  exact ⟨Stp.refl s.rel, q⟩
theorem wlk_range {lo : Int} {n : Nat} (rel : Rel K mg H al T L) : Wlk K mg H al T L (Itr lo n) ((List.range n).map fun i => .d (.int (lo + (i : Nat)))) := by
  intro H1 al1 T1 L1 s
  refine ⟨by show n ≤ _; simp, fun i w e => ?_⟩
  rw [List.getElem?_map] at e
  by_cases hi : i < n
  · rw [List.getElem?_range hi] at e
    cases e
    refine ⟨hi, fun x H2 y => ?_⟩
    obtain ⟨rfl, rfl⟩ := y
    exact ⟨Stp.refl s.rel, .d (.int _)⟩
  · rw [List.getElem?_eq_none (by simpa using hi)] at e; cases e
end
theorem not_alv_mask {H : Hp} {al T : List Addr} {L : LH} {a : Addr} {o : HO} (e : mask H (al ++ T) a = some o) : ¬ Alv al L a := fun z => (of_mask e).1 (List.mem_append_left _ z.mem)
theorem si_v {tg e : Expr} {f : EF} (h : SE X Wx e f) : SI X Wx tg e (srcV f) := by
  refine PI.imp (pi_seq h) ?_
  rintro σ H R ⟨env, L, al, T, c, q⟩
  refine ⟨env, L, al, T, c, ?_⟩
  unfold srcV at q
  revert q
  generalize f env L = r
  intro q
  cases r with
  | stuck => exact q
  | exc c f L1 => exact q
  | ok w L1 =>
    intro v H1 al1 s1 r1
    simp only [Res.bind_ok] at q
    cases e : srcOf w L1 with
    | none => rw [e] at q; exact q.elim
    | some p =>
      rw [e] at q
      cases w with
      | loc n =>
        simp only [srcOf] at e
        split at e
        · rename_i ws e1
          cases e
          obtain ⟨a, vs, rfl, ea, e3, e4⟩ := loc_lst s1.rel r1 e1
          refine ⟨a, rfl, .inl ⟨⟨vs, SqL.of e3⟩, q _ H1 al1 s1 ?_⟩⟩
          refine wlk_lst (s1.rel.lock _) e3 (fun ⟨k, o, h1, h2⟩ => ?_) e4
          have hn : n < L1.length := (List.getElem?_eq_some_iff.mp e1).1
          have : k = n := by
            obtain ⟨h3, h4⟩ := List.getElem?_eq_some_iff.mp ea
            obtain ⟨h5, h6⟩ := List.getElem?_eq_some_iff.mp h1
            exact (List.getElem_inj s1.rel.nd).mp (h6.trans h4.symm)
          subst this
          unfold lockL at h2
          simp only at h2
          rw [List.getElem?_set_self hn] at h2
          cases h2
        · cases e
      | d y =>
        cases r1 with
        | d r1 =>
          cases r1 with
          | lst e1 e2 => cases e; exact ⟨_, rfl, .inl ⟨⟨_, SqL.of (of_mask e1).2⟩, q _ H1 al1 s1 (wlk_lst s1.rel (of_mask e1).2 (not_alv_mask e1) (all_dq e2))⟩⟩
          | tup e1 e2 => cases e; exact ⟨_, rfl, .inr ⟨⟨_, SqT.of (of_mask e1).2⟩, q _ H1 al1 s1 (wlk_tup s1.rel e1 (all_dq e2))⟩⟩
          | non => cases e
          | bl _ => cases e
          | int _ => cases e
          | str _ => cases e
      | tup us =>
        cases e
        cases r1 with
        | tup e1 e2 => exact ⟨_, rfl, .inr ⟨⟨_, SqT.of (of_mask e1).2⟩, q _ H1 al1 s1 (wlk_tup s1.rel e1 e2)⟩⟩
      | dct _ => cases e
      | exc _ _ => cases e
      | scr ns => cases e
end
end L2.HW
namespace L2.HW
open PySem PySem.Spec PyProof.Rows
section
variable {X : Cx} {Wx : WX}
/-- ranges -/
def rngV (lo : Int) (n : Nat) : List Va := (List.range n).map fun i => .d (.int (lo + (i : Nat)))
def srcR1 (fs : En → LH → Res (List Va)) : Srcf := fun env L => (fs env L).bind fun ws L1 => match ws with
  | [.d (.int j)] => if -(2 ^ 62) ≤ j ∧ j < 2 ^ 62 then .ok (rngV 0 j.toNat, none) L1 else .stuck
  | _ => .stuck
def srcR2 (fs : En → LH → Res (List Va)) : Srcf := fun env L => (fs env L).bind fun ws L1 => match ws with
  | [.d (.int i), .d (.int j)] => if -(2 ^ 62) ≤ i ∧ i < 2 ^ 62 ∧ -(2 ^ 62) ≤ j ∧ j < 2 ^ 62 then .ok (rngV i (j - i).toNat, none) L1 else .stuck
  | _ => .stuck
theorem iseq {α β : Type} {R : Hp → List Addr → β → α → Prop} {σ : St} {H : Hp} {al T : List Addr} {L : LH} {env : En} {f : En → LH → Res α} {k : α → LH → Res (List Va × Option Nat)} {Q : It → Hp → Prop} {Q' : β → Hp → Prop}
    (c : Conf X.K X.mg σ H env L al T) (h : IPost X Wx σ H al T L ((f env L).bind k) Q)
    (hk : ∀ b H1 a L1 al1, Conf X.K X.mg σ H1 env L1 al1 T → Stp X.K X.mg H al T L H1 al1 T L1 → R (mask H1 (al1 ++ T)) al1 b a → IPost X Wx σ H1 al1 T L1 (k a L1) Q → Q' b H1) : Rdg X Wx R f σ H Q' := by
  refine ⟨env, L, al, T, c, ?_⟩
  revert h
  generalize f env L = r
  intro g
  cases r with
  | stuck => exact g
  | exc c f L1 => exact g
  | ok b L1 =>
    intro b' H1 al1 s1 q1
    refine hk b' H1 b L1 al1 (c.stp s1) s1 q1 ?_
    simp only [Res.bind_ok] at g
    revert g
    generalize k b L1 = r2
    intro g
    cases r2 with
    | stuck => exact g
    | exc c' f L2 => exact fun cls d H' al' t q => g cls d H' al' (Stp.trans c.rel.len s1 t) q
    | ok o L2 => exact fun J H' al' t q => g J H' al' (Stp.trans c.rel.len s1 t) q
theorem si_r1 {tg a : Expr} {fs : En → LH → Res (List Va)} {p pos : Pos} (hg : Gl X "range") (hm : X.mg "range" = none) (ha : SA X Wx [a] fs) (hs : starEach [a] X.env = [(false, eval a X.env)] := by rfl) : SI X Wx tg (.Call (.Name "range" p) [a] [] pos) (srcR1 fs) := by
  refine PI.imp (pi_range1 hg hm ha hs) ?_
  rintro σ H R ⟨env, L, al, T, c, h⟩
  refine iseq (R := RVs X) c h fun vs H1 ws L1 al1 c1 s1 r1 h1 => ?_
  split at h1
  · rename_i j
    obtain ⟨v, rfl, q⟩ := rps_1 r1
    split at h1
    · rename_i hb
      refine ⟨j, by rw [dq_int (rp_d q)], hb.1, hb.2, h1 _ H1 al1 (Stp.refl c1.rel) (wlk_range (lo := 0) c1.rel)⟩
    · exact h1.elim
  · exact h1.elim
theorem si_r2 {tg a b : Expr} {fs : En → LH → Res (List Va)} {p pos : Pos} (hg : Gl X "range") (hm : X.mg "range" = none) (ha : SA X Wx [a, b] fs) (hs : starEach [a, b] X.env = [(false, eval a X.env), (false, eval b X.env)] := by rfl) (hs2 : starEach [b] X.env = [(false, eval b X.env)] := by rfl) :
    SI X Wx tg (.Call (.Name "range" p) [a, b] [] pos) (srcR2 fs) := by
  refine PI.imp (pi_range2 hg hm ha hs hs2) ?_
  rintro σ H R ⟨env, L, al, T, c, h⟩
  refine iseq (R := RVs X) c h fun vs H1 ws L1 al1 c1 s1 r1 h1 => ?_
  split at h1
  · rename_i i j
    obtain ⟨v, y, rfl, q, q2⟩ := rps_2 r1
    split at h1
    · rename_i hb
      refine ⟨i, j, by rw [dq_int (rp_d q), dq_int (rp_d q2)], hb, h1 _ H1 al1 (Stp.refl c1.rel) (wlk_range (lo := i) c1.rel)⟩
    · exact h1.elim
  · exact h1.elim

/-! ### for -/
def forL (g : Va → En → LH → Res En) (body : SFn) : List Va → En → LH → Out
  | [], env, L => .nx env L
  | w :: ws, env, L => match g w env L with
    | .ok env1 L1 => match body env1 L1 with
      | .nx env2 L2 => forL g body ws env2 L2
      | .ct env2 L2 => forL g body ws env2 L2
      | .bk env2 L2 => .nx env2 L2
      | o => o
    | _ => .stuck
def openOut (lk : Option Nat) (L0 : LH) : Out → Out
  | .nx env L => .nx env (openL lk L0 L)
  | .rt w L => .rt w (openL lk L0 L)
  | .rf o L => .rf o (openL lk L0 L)
  | .bk env L => .bk env (openL lk L0 L)
  | .ct env L => .ct env (openL lk L0 L)
  | .exc c f env L => .exc c f env (openL lk L0 L)
  | .stuck => .stuck
def sFor (s : Srcf) (g : Va → En → LH → Res En) (body : SFn) : SFn := fun env L => (s env L).then env fun p L1 => openOut p.2 L1 (forL g body p.1 env (lockL p.2 L1))
theorem SPost.opened {H1 H3 : Hp} {al1 al3 T : List Addr} {L1 L3 : LH} {lk : Option Nat} {r : Out} {D : Ends} (r0 : Rel X.K X.mg H1 al1 T L1) (s : Stp X.K X.mg H1 al1 T (lockL lk L1) H3 al3 T L3) (h : SPost X Wx H1 al1 T L1 (openOut lk L1 r) D) : SPost X Wx H3 al3 T L3 r D := by
  have hl : al1.length = (lockL lk L1).length := (r0.lock lk).len
  have op : ∀ {H' : Hp} {al' T' : List Addr} {L' : LH}, Stp X.K X.mg H3 al3 T L3 H' al' T' L' → Stp X.K X.mg H1 al1 T L1 H' al' T' (openL lk L1 L') := fun t => Stp.opened r0 (Stp.trans hl s t)
  cases r with
  | nx env' L' => exact fun σ' H' al' t c => h σ' H' al' (op t) ⟨(op t).rel, c.len, c.slot⟩
  | rt w L' => exact fun v H' al' t c => h v H' al' (op t) c
  | rf o L' => exact fun a H' al' ha t c => h a H' al' (s.back ha) (op t) c
  | bk env' L' => exact fun σ' H' al' t c => h σ' H' al' (op t) ⟨(op t).rel, c.len, c.slot⟩
  | ct env' L' => exact fun σ' H' al' t c => h σ' H' al' (op t) ⟨(op t).rel, c.len, c.slot⟩
  | exc c f env' L' => exact fun cls d σ' H' al' t c => h cls d σ' H' al' (op t) ⟨(op t).rel, c.len, c.slot⟩
  | stuck => exact h
theorem ss_for {tg iter : Expr} {body : List Stmt} {pos : Pos} {s : Srcf} {sl : List Nat} {g : Va → En → LH → Res En} {fb : SFn} (hp : PassesOwn (model X.prog X.w) X.A X.env X.xe) (hc : X.calm = true) (hi : SI X Wx tg iter s) (hg : SG X sl tg g) (hb : SB X Wx body fb)
    (hs : ∀ x, foldedSetIterable iter X.env x = pure x := by intro _; rfl) : SS X Wx (.For tg iter body [] pos) (sFor s g fb) := by
  refine PS.imp (ps_for hp hc hi hg hb hs) ?_
  rintro D σ H ⟨env, L, al, T, c, h⟩
  refine ⟨env, L, al, T, c, ?_⟩
  unfold sFor at h
  revert h
  generalize s env L = r
  intro h
  cases r with
  | stuck => exact h
  | exc c' f L1 => exact fun cls d H' al' t e => h cls d σ H' al' t (c.stp t) e
  | ok p L1 =>
    obtain ⟨ws, lk⟩ := p
    intro J H1 al1 s1 wk
    have c1 := c.stp s1
    have h := SPost.on c.rel.len s1 h
    simp only [then_ok] at h
    have hl : al1.length = (lockL lk L1).length := (c1.rel.lock lk).len
    let W : Nat → Nat → St → Hp → Prop := fun i m σ2 H2 => m = ws.length - i ∧ i ≤ ws.length ∧ ∃ env2 al2 L2, Stp X.K X.mg H1 al1 T (lockL lk L1) H2 al2 T L2 ∧ Conf X.K X.mg σ2 H2 env2 L2 al2 T ∧ SPost X Wx H1 al1 T L1 (openOut lk L1 (forL g fb (ws.drop i) env2 L2)) D
    refine ⟨W, ⟨ws.length, by simp, Nat.zero_le _, env, al1, lockL lk L1, Stp.refl (c1.rel.lock lk), c1.lock lk, h⟩, ?_⟩
    rintro i m σ2 H2 ⟨rfl, hi, env2, al2, L2, s2, c2, h2⟩
    obtain ⟨stop, item⟩ := wk H2 al2 T L2 s2
    by_cases hlt : i < ws.length
    · have ew : ws[i]? = some ws[i] := List.getElem?_eq_getElem hlt
      obtain ⟨go, yl⟩ := item i _ ew
      refine .inr ⟨go, W (i + 1) (ws.length - (i + 1)), fun σ' H' n => ⟨ws.length - (i + 1), by omega, n⟩, fun x H3 y => ?_⟩
      obtain ⟨s3, rx⟩ := yl x H3 y
      have c3 := c2.stp s3
      have s23 := Stp.trans hl s2 s3
      refine ⟨ws[i], env2, L2, al2, T, c3, rx, ?_⟩
      rw [List.drop_eq_getElem_cons hlt] at h2
      unfold forL at h2
      revert h2
      generalize g ws[i] env2 L2 = r1
      intro h2
      cases r1 with
      | stuck => exact h2
      | exc _ _ _ => exact h2
      | ok env4 L4 =>
        intro σ4 H4 al4 s4 c4 _
        have s24 := Stp.trans hl s23 s4
        refine ⟨env4, L4, al4, T, c4, ?_⟩
        simp only at h2
        revert h2
        generalize fb env4 L4 = r2
        intro h2
        have again : ∀ {env5 : En} {L5 : LH} {σ5 : St} {H5 : Hp} {al5 : List Addr}, SPost X Wx H1 al1 T L1 (openOut lk L1 (forL g fb (ws.drop (i + 1)) env5 L5)) D → Stp X.K X.mg H4 al4 T L4 H5 al5 T L5 → Conf X.K X.mg σ5 H5 env5 L5 al5 T → W (i + 1) (ws.length - (i + 1)) σ5 H5 :=
          fun {env5 L5 σ5 H5 al5} h5 s5 c5 => ⟨rfl, hlt, env5, al5, L5, Stp.trans hl s24 s5, c5, h5⟩
        cases r2 with
        | nx env5 L5 => exact fun σ5 H5 al5 s5 c5 => again h2 s5 c5
        | ct env5 L5 => exact fun σ5 H5 al5 s5 c5 => again h2 s5 c5
        | bk env5 L5 => exact SPost.opened (r := .nx env5 L5) c1.rel s24 h2
        | rt w L5 => exact SPost.opened (r := .rt w L5) c1.rel s24 h2
        | rf o L5 => exact SPost.opened (r := .rf o L5) c1.rel s24 h2
        | exc c' f' env5 L5 => exact SPost.opened (r := .exc c' f' env5 L5) c1.rel s24 h2
        | stuck => exact h2
    · have e : i = ws.length := by omega
      subst e
      rw [List.drop_length] at h2
      exact .inl ⟨stop, (SPost.opened (r := .nx env2 L2) c1.rel s2 h2) σ2 H2 al2 (Stp.refl c2.rel) c2⟩
/-! ### while -/
/-- a while's turns: at most n of them -/
def whileL (t : En → LH → Res Bool) (body : SFn) : Nat → En → LH → Out
  | 0, _, _ => .stuck
  | n + 1, env, L => (t env L).then env fun b L1 => if b then match body env L1 with
      | .nx env2 L2 => whileL t body n env2 L2
      | .ct env2 L2 => whileL t body n env2 L2
      | .bk env2 L2 => .nx env2 L2
      | o => o
    else .nx env L1
theorem whileL_more {t : En → LH → Res Bool} {body : SFn} : ∀ (n k : Nat) {env : En} {L : LH} {r : Out}, whileL t body n env L = r → r ≠ .stuck → whileL t body (n + k) env L = r
  | 0, _, _, _, _, h, hr => absurd h.symm hr
  | n + 1, k, env, L, r, h, hr => by
    rw [Nat.add_right_comm]
    unfold whileL at h ⊢
    cases e : t env L with
    | stuck => rw [e] at h; exact absurd h.symm hr
    | exc c f L1 => rw [e] at h; exact h
    | ok b L1 =>
      rw [e] at h
      simp only [then_ok] at h ⊢
      cases b with
      | false => exact h
      | true =>
        simp only [if_true] at h ⊢
        cases e2 : body env L1 with
        | nx env2 L2 => rw [e2] at h; exact whileL_more n k h hr
        | ct env2 L2 => rw [e2] at h; exact whileL_more n k h hr
        | bk env2 L2 => rw [e2] at h; exact h
        | rt w L2 => rw [e2] at h; exact h
        | rf o L2 => rw [e2] at h; exact h
        | exc c f env2 L2 => rw [e2] at h; exact h
        | stuck => rw [e2] at h; exact h
open Classical in
/-- it ends within some number of turns -/
noncomputable def sWhile (t : En → LH → Res Bool) (body : SFn) : SFn := fun env L => if h : ∃ n, whileL t body n env L ≠ .stuck then whileL t body (Classical.choose h) env L else .stuck
theorem sWhile_eq {t : En → LH → Res Bool} {body : SFn} {n : Nat} {env : En} {L : LH} {r : Out} (h : whileL t body n env L = r) (hr : r ≠ .stuck) : sWhile t body env L = r := by
  have ex : ∃ n, whileL t body n env L ≠ .stuck := ⟨n, by rw [h]; exact hr⟩
  unfold sWhile
  rw [dif_pos ex]
  have h1 := Classical.choose_spec ex
  have h2 := whileL_more (Classical.choose ex) n (rfl : whileL t body (Classical.choose ex) env L = _) h1
  have h3 := whileL_more n (Classical.choose ex) h hr
  rw [Nat.add_comm] at h3
  rw [← h2, h3]
theorem ss_while {e : Expr} {body : List Stmt} {pos : Pos} {t : En → LH → Res Bool} {fb : SFn} (hp : PassesOwn (model X.prog X.w) X.A X.env X.xe) (ht : ST X Wx e t) (hb : SB X Wx body fb) : SS X Wx (.While e body [] pos) (sWhile t fb) := by
  refine PS.imp (ps_while hp ht hb) ?_
  rintro D σ H ⟨env, L, al, T, c, h⟩
  obtain ⟨n, h⟩ : ∃ n, SPost X Wx H al T L (whileL t fb n env L) D := by
    unfold sWhile at h
    split at h
    · exact ⟨_, h⟩
    · exact h.elim
  let W : Nat → St → Hp → Prop := fun m σ2 H2 => ∃ env2 al2 L2, Stp X.K X.mg H al T L H2 al2 T L2 ∧ Conf X.K X.mg σ2 H2 env2 L2 al2 T ∧ SPost X Wx H al T L (whileL t fb m env2 L2) D
  refine ⟨W, ⟨_, env, al, L, Stp.refl c.rel, c, h⟩, ?_⟩
  rintro m σ2 H2 ⟨env2, al2, L2, s2, c2, h2⟩
  have hl := c.rel.len
  have on : ∀ {H3 : Hp} {al3 : List Addr} {L3 : LH} {r : Out}, Stp X.K X.mg H2 al2 T L2 H3 al3 T L3 → SPost X Wx H al T L r D → SPost X Wx H3 al3 T L3 r D := fun s3 h => SPost.on hl (Stp.trans hl s2 s3) h
  cases m with
  | zero => exact h2.elim
  | succ m =>
    unfold whileL at h2
    refine ⟨env2, L2, al2, T, c2, ?_⟩
    revert h2
    generalize t env2 L2 = r1
    intro h2
    cases r1 with
    | stuck => exact h2
    | exc c' f L3 => exact fun cls d H' al' s e => h2 cls d σ2 H' al' (Stp.trans hl s2 s) (c2.stp s) e
    | ok b L3 =>
      intro b' H3 al3 s3 e
      obtain rfl : b' = b := e
      have c3 := c2.stp s3
      simp only [then_ok] at h2
      cases b' with
      | false => exact (on s3 h2) σ2 H3 al3 (Stp.refl c3.rel) c3
      | true =>
        rw [if_pos rfl] at h2 ⊢
        refine ⟨W m, fun σ' H' w => ⟨m, Nat.lt_succ_self m, w⟩, env2, L3, al3, T, c3, ?_⟩
        revert h2
        generalize fb env2 L3 = r2
        intro h2
        have s23 := Stp.trans hl s2 s3
        have again : ∀ {env5 : En} {L5 : LH} {σ5 : St} {H5 : Hp} {al5 : List Addr}, SPost X Wx H al T L (whileL t fb m env5 L5) D → Stp X.K X.mg H3 al3 T L3 H5 al5 T L5 → Conf X.K X.mg σ5 H5 env5 L5 al5 T → W m σ5 H5 :=
          fun {env5 L5 σ5 H5 al5} h5 s5 c5 => ⟨env5, al5, L5, Stp.trans hl s23 s5, c5, h5⟩
        cases r2 with
        | nx env5 L5 => exact fun σ5 H5 al5 s5 c5 => again h2 s5 c5
        | ct env5 L5 => exact fun σ5 H5 al5 s5 c5 => again h2 s5 c5
        | bk env5 L5 => exact on (r := .nx env5 L5) s3 h2
        | rt w L5 => exact on (r := .rt w L5) s3 h2
        | rf o L5 => exact on (r := .rf o L5) s3 h2
        | exc c' f' env5 L5 => exact on (r := .exc c' f' env5 L5) s3 h2
        | stuck => exact h2
end
end L2.HW
/-! SemK: list comprehensions. -/
namespace L2.HW
open PySem PySem.Spec PyProof.Rows
section
variable {X : Cx} {Wx : WX}
abbrev FX : WX := fun _ _ _ _ => False
def STs (X : Cx) (Wx : WX) (ifs : List Expr) (t : En → LH → Res Bool) : Prop := PTs X ifs (Rdg X Wx RB t)
def tTrue : En → LH → Res Bool := fun _ L => .ok true L
theorem sts_nil : STs X Wx [] tTrue := ⟨fun pins s σ H Q I ⟨env, L, al, T, c, h⟩ => pts_nil.run pins s σ H Q I (gok c.rel h rfl)⟩
theorem sts_one {c : Expr} {t : En → LH → Res Bool} (h : ST X Wx c t) : STs X Wx [c] t := pts_one h
/-- one turn after another: what is made -/
def compL (g : Va → En → LH → Res En) (t : En → LH → Res Bool) (f : EF) : List Va → En → LH → Res (List Va)
  | [], _, L => .ok [] L
  | w :: ws, env, L => match g w env L with
    | .ok env1 L1 => match t env1 L1 with
      | .ok b L2 => if b then match f env1 L2 with
          | .ok u L3 => (compL g t f ws env L3).bind fun us L4 => .ok (u :: us) L4
          | _ => .stuck
        else compL g t f ws env L2
      | _ => .stuck
    | _ => .stuck
def wipeE (env : En) : List Nat → En
  | [] => env
  | v :: vs => (wipeE env vs).set v none
def fComp (s : Srcf) (g : Va → En → LH → Res En) (t : En → LH → Res Bool) (f : EF) (vs : List Nat) : En → LH → Res Ob := fun env L => (s env L).bind fun p L1 =>
  if p.1.length ≤ sizeLine then match compL g t f p.1 (wipeE env vs) (lockL p.2 L1) with
    | .ok us L2 => .ok (.lst us) (openL p.2 L1 L2)
    | _ => .stuck
  else .stuck
theorem wipeE_length (env : En) : ∀ vs, (wipeE env vs).length = env.length
  | [] => rfl
  | v :: vs => by unfold wipeE; rw [List.length_set, wipeE_length env vs]
theorem wipeE_some {env : En} {i : Nat} {x : Va} : ∀ {vs : List Nat}, (wipeE env vs)[i]? = some (some x) → env[i]? = some (some x) ∧ i ∉ vs
  | [], h => ⟨h, by simp⟩
  | v :: vs, h => by
    unfold wipeE at h
    by_cases hi : v = i
    · subst hi
      by_cases hv : v < (wipeE env vs).length
      · rw [List.getElem?_set_self hv] at h; cases h
      · rw [List.getElem?_eq_none (by simpa using hv)] at h; cases h
    · rw [List.getElem?_set_ne hi] at h
      obtain ⟨h1, h2⟩ := wipeE_some h
      exact ⟨h1, by simp only [List.mem_cons, not_or]; exact ⟨fun e => hi e.symm, h2⟩⟩
theorem wipe_out' {σ : St} {i : Nat} : ∀ {vs : List Nat}, i ∉ vs → (wipe σ vs)[i]? = σ[i]?
  | [], _ => rfl
  | v :: vs, h => by
    unfold wipe
    rw [List.getElem?_set_ne (by intro z; exact h (by simp [z]))]
    exact wipe_out' fun z => h (List.mem_cons_of_mem _ z)
theorem wipe_in {σ : St} {i : Nat} : ∀ {vs : List Nat}, i ∈ vs → i < σ.length → (wipe σ vs)[i]? = some none
  | [], h, _ => by cases h
  | v :: vs, h, hl => by
    unfold wipe
    by_cases e : v = i
    · subst e
      rw [List.getElem?_set_self (by rw [wipe_length]; exact hl)]
    · rw [List.getElem?_set_ne e]
      rcases List.mem_cons.mp h with z | z
      · exact absurd z.symm e
      · exact wipe_in z hl
theorem wipe_agr {σ σ2 : St} {vs sl : List Nat} (h : Agr sl (wipe σ vs) σ2) (hs : ∀ j ∈ sl, j ∈ vs) : wipe σ2 vs = wipe σ vs := by
  have hlen : σ2.length = σ.length := by rw [h.1, wipe_length]
  apply List.ext_getElem?
  intro j
  by_cases e : j ∈ vs
  · by_cases hj : j < σ.length
    · rw [wipe_in e (by omega), wipe_in e hj]
    · rw [List.getElem?_eq_none (by rw [wipe_length]; omega), List.getElem?_eq_none (by rw [wipe_length]; omega)]
  · rw [wipe_out' e, h.2 j fun z => e (hs j z)]
theorem Conf.wiped {K : PySem.W.Frag} {mg : Str → Option Value} {σ : St} {H : Hp} {env : En} {L : LH} {al T : List Addr} (c : Conf K mg σ H env L al T) (vs : List Nat) : Conf K mg (wipe σ vs) H (wipeE env vs) L al T :=
  ⟨c.rel, by rw [wipe_length, wipeE_length, c.len], fun i w e => by
    obtain ⟨e1, n⟩ := wipeE_some e
    obtain ⟨v, h1, h2⟩ := c.slot i w e1
    exact ⟨v, by rw [wipe_out' n]; exact h1, h2⟩⟩
theorem lc_at {wi : TI} {s : Srcf} {sl vs : List Nat} {g : Va → En → LH → Res En} {t : En → LH → Res Bool} {f : EF} {σ : St} {H : Hp} {Q : VK} {gR : TG} {tR : TT} {eR : TE} {env : En} {L : LH} {al T : List Addr} (hv : ∀ j ∈ sl, j ∈ vs) (c : Conf X.K X.mg σ H env L al T)
    (hw : ∀ R, IPost X Wx σ H al T L (s env L) R → wi σ H R)
    (hgR : ∀ v σ H Q, (∃ w env L al T, Conf X.K X.mg σ H env L al T ∧ RV X (mask H (al ++ T)) al v w ∧ TPost X sl σ H al T L (g w env L) Q) → gR v σ H Q)
    (htR : ∀ σ H Q, Rdg X FX RB t σ H Q → tR σ H Q) (heR : ∀ σ H Q, Rdg X FX (RV X) f σ H Q → eR σ H Q)
    (h : FPost X Wx σ H al T L (fComp s g t f vs env L) Q) : tLc wi gR tR eR vs σ H Q := by
  refine hw _ ?_
  unfold fComp at h
  revert h
  generalize s env L = r
  intro h
  cases r with
  | stuck => exact h
  | exc c' f L1 => exact h
  | ok p L1 =>
    obtain ⟨ws, lk⟩ := p
    intro J H1 al1 s1 wk D hD
    have c1 := c.stp s1
    simp only [Res.bind_ok] at h
    split at h
    · rename_i hz
      have hl : al1.length = (lockL lk L1).length := (c1.rel.lock lk).len
      have c1l := c1.lock lk
      -- the new list, held
      have s0 : Stp X.K X.mg H1 al1 T (lockL lk L1) (upd H1 D (.lst [])) al1 (D :: T) (lockL lk L1) := c1l.rel.allocT hD
      let W : Nat → Nat → Hp → Prop := fun i m H2 => m = ws.length - i ∧ i ≤ ws.length ∧ ∃ al2 L2 av aw, Stp X.K X.mg H1 al1 T (lockL lk L1) H2 al2 (D :: T) L2 ∧ H2 D = some (.lst av) ∧ Rps X.K X.mg (mask H2 (al2 ++ (D :: T))) al2 av aw ∧ aw.length ≤ i ∧
        FPost X Wx σ H1 al1 T L1 (match compL g t f (ws.drop i) (wipeE env vs) L2 with
          | .ok us L3 => .ok (.lst (aw ++ us)) (openL lk L1 L3)
          | _ => .stuck) Q
      have back : ∀ x, H1 x = none → H x = none := fun x z => s1.back z
      have h1 : FPost X Wx σ H1 al1 T L1 (match compL g t f ws (wipeE env vs) (lockL lk L1) with
          | .ok us L3 => .ok (.lst us) (openL lk L1 L3)
          | _ => .stuck) Q := by
        revert h
        generalize compL g t f ws (wipeE env vs) (lockL lk L1) = r2
        intro h
        cases r2 with
        | ok us L3 => exact fun a H' al' ha t q => h a H' al' (back a ha) (Stp.trans c.rel.len s1 t) q
        | exc _ _ _ => exact h.elim
        | stuck => exact h.elim
      refine ⟨W, ⟨ws.length, by simp, Nat.zero_le _, al1, lockL lk L1, [], [], s0, upd_same, .nil, Nat.le_refl _, ?_⟩, ?_⟩
      · simpa using h1
      rintro i m H2 ⟨rfl, hi, al2, L2, av, aw, s2, hav, raw, hlen, h2⟩
      obtain ⟨stop, item⟩ := wk H2 al2 (D :: T) L2 s2
      by_cases hlt : i < ws.length
      · have ew : ws[i]? = some ws[i] := List.getElem?_eq_getElem hlt
        obtain ⟨go, yl⟩ := item i _ ew
        refine .inr ⟨go, W (i + 1) (ws.length - (i + 1)), fun H' n => ⟨ws.length - (i + 1), by omega, n⟩, fun x H3 y => ?_⟩
        obtain ⟨s3, rx⟩ := yl x H3 y
        have s13 := Stp.trans hl s2 s3
        have c3 : Conf X.K X.mg (wipe σ vs) H3 (wipeE env vs) L2 al2 (D :: T) := (c1l.wiped vs).stp s13
        refine hgR _ _ _ _ ⟨ws[i], wipeE env vs, L2, al2, D :: T, c3, rx, ?_⟩
        rw [List.drop_eq_getElem_cons hlt] at h2
        unfold compL at h2
        revert h2
        generalize g ws[i] (wipeE env vs) L2 = r1
        intro h2
        cases r1 with
        | stuck => exact h2
        | exc _ _ _ => exact h2
        | ok env4 L4 =>
          intro σ4 H4 al4 s4 c4 ag
          have s14 := Stp.trans hl s13 s4
          refine ⟨wipe_agr ag hv, htR _ _ _ ⟨env4, L4, al4, D :: T, c4, ?_⟩⟩
          simp only at h2
          revert h2
          generalize t env4 L4 = r2
          intro h2
          cases r2 with
          | stuck => exact h2
          | exc _ _ _ => exact h2.elim
          | ok b L5 =>
            intro b' H5 al5 s5 e5
            obtain rfl : b' = b := e5
            have s15 := Stp.trans hl s14 s5
            have h5 : H5 D = some (.lst av) := s5.frame D _ (s4.frame D _ (s3.frame D _ hav (fun z => s2.rel.dis D z.mem List.mem_cons_self)) (fun z => s3.rel.dis D z.mem List.mem_cons_self)) (fun z => s4.rel.dis D z.mem List.mem_cons_self)
            have raw5 := s5.rps (s4.rps (s3.rps raw))
            simp only at h2
            cases b' with
            | false =>
              rw [if_neg Bool.false_ne_true] at h2 ⊢
              exact ⟨rfl, hlt, al5, L5, av, aw, s15, h5, raw5, by omega, h2⟩
            | true =>
              rw [if_pos rfl] at h2 ⊢
              have c5 := c4.stp s5
              refine heR _ _ _ ⟨env4, L5, al5, D :: T, c5, ?_⟩
              revert h2
              generalize f env4 L5 = r3
              intro h2
              cases r3 with
              | stuck => exact h2
              | exc _ _ _ => exact h2.elim
              | ok u L6 =>
                intro yv H6 al6 s6 ry
                have s16 := Stp.trans hl s15 s6
                have h6 : H6 D = some (.lst av) := s6.frame D _ h5 (fun z => s5.rel.dis D z.mem List.mem_cons_self)
                have raw6 := s6.rps raw5
                have l6 := Paired.length raw6
                refine ⟨av, h6, by omega, rfl, hlt, al6, L6, av ++ [yv], aw ++ [u], Stp.updT hD s16, upd_same, ?_, by simp; omega, ?_⟩
                · rw [mask_in (by simp)]
                  exact rps_app raw6 (.cons ry .nil)
                · simp only at h2
                  revert h2
                  generalize compL g t f (ws.drop (i + 1)) (wipeE env vs) L6 = r4
                  intro h2
                  cases r4 with
                  | stuck => exact h2
                  | exc _ _ _ => exact h2
                  | ok us L7 => simpa using h2
      · have e : i = ws.length := by omega
        subst e
        rw [List.drop_length] at h2
        unfold compL at h2
        simp only [List.append_nil] at h2
        exact .inl ⟨stop, h2 D H2 al2 hD (Stp.opened c1.rel s2) ⟨av, hav, raw⟩⟩
    · exact h.elim
theorem lc_red {wi : TI} {s : Srcf} {sl vs : List Nat} {g : Va → En → LH → Res En} {t : En → LH → Res Bool} {f : EF} {σ : St} {H : Hp} {Q : VK} {gR : TG} {tR : TT} {eR : TE} (hv : ∀ j ∈ sl, j ∈ vs)
    (hw : ∀ σ H R, (∃ env L al T, Conf X.K X.mg σ H env L al T ∧ IPost X Wx σ H al T L (s env L) R) → wi σ H R)
    (hgR : ∀ v σ H Q, (∃ w env L al T, Conf X.K X.mg σ H env L al T ∧ RV X (mask H (al ++ T)) al v w ∧ TPost X sl σ H al T L (g w env L) Q) → gR v σ H Q)
    (htR : ∀ σ H Q, Rdg X FX RB t σ H Q → tR σ H Q) (heR : ∀ σ H Q, Rdg X FX (RV X) f σ H Q → eR σ H Q)
    (h : FRdg X Wx (fComp s g t f vs) σ H Q) : tLc wi gR tR eR vs σ H Q := by
  obtain ⟨env, L, al, T, c, h⟩ := h
  exact lc_at hv c (fun R q => hw _ _ _ ⟨env, L, al, T, c, q⟩) hgR htR heR h
abbrev gRd (X : Cx) (sl : List Nat) (g : Va → En → LH → Res En) : TG := fun v σ H Q => ∃ w env L al T, Conf X.K X.mg σ H env L al T ∧ RV X (mask H (al ++ T)) al v w ∧ TPost X sl σ H al T L (g w env L) Q
abbrev BlkP (X : Cx) (scope : Scope) (P : Cx → Prop) : Prop := ∀ (s : Shared) (H : Hp) (C : Addr) (cl : List (Str × Addr)) (fp : List Addr), P (X.blk s H scope (compEnvC scope cl C X.env) fp)
theorem sf_comp {elt tg iter : Expr} {ifs : List Expr} {scope : Scope} {own : List (Str × Nat)} {pos : Pos} {s : Srcf} {sl : List Nat} {g : Va → En → LH → Res En} {t : En → LH → Res Bool} {f : EF} (hc : X.calm = true) (hN : X.N.Nodup) (hi : SI X Wx tg iter s) (ok : BlkOk X.N X.env.scope scope own)
    (hv : ∀ j ∈ sl, j ∈ own.map (·.2)) (hg : BlkP X scope fun X => SG X sl tg g) (ht : BlkP X scope fun X => STs X FX ifs t) (he : BlkP X scope fun X => SE X FX elt f) (hs : ∀ x, foldedSetIterable iter X.env x = pure x := by intro _; rfl) :
    SF X Wx (.ListComp elt [⟨tg, iter, ifs, 0⟩] scope pos) (fComp s g t f (own.map (·.2))) :=
  PE.imp (pe_lc (g := gRd X sl g) (tt := Rdg X FX RB t) (te := Rdg X FX (RV X) f) hc hN hi ok (fun s H C cl fp => hg s H C cl fp) (fun s H C cl fp => ht s H C cl fp) (fun s H C cl fp => he s H C cl fp) hs) fun σ H Q h => lc_red hv (fun _ _ _ h => h) (fun _ _ _ _ h => h) (fun _ _ _ h => h) (fun _ _ _ h => h) h
/-- y = [..] on one line, y a local: as data -/
theorem ss_setComp {i : Nat} {y : Str} {py : Pos} {elt tg iter : Expr} {ifs : List Expr} {scope : Scope} {own : List (Str × Nat)} {pos spos : Pos} {s : Srcf} {sl : List Nat} {g : Va → En → LH → Res En} {t : En → LH → Res Bool} {f : EF} (hc : X.calm = true) (hN : X.N.Nodup) (hy : X.N[i]? = some y) (hyl : X.env.scope.names.lookup y = some .local)
    (hsw : swapsWith (.ListComp elt [⟨tg, iter, ifs, 0⟩] scope pos) (some (.Name y py)) spos.line X.env = pure true) (hi : SI X Wx tg iter s) (ok : BlkOk X.N X.env.scope scope own)
    (hv : ∀ j ∈ sl, j ∈ own.map (·.2)) (hg : BlkP X scope fun X => SG X sl tg g) (ht : BlkP X scope fun X => STs X FX ifs t) (he : BlkP X scope fun X => SE X FX elt f) (hs : ∀ x, foldedSetIterable iter X.env x = pure x := by intro _; rfl) :
    SS X Wx (.Assign [.Name y py] (.ListComp elt [⟨tg, iter, ifs, 0⟩] scope pos) spos) (sSet i (eDat (fComp s g t f (own.map (·.2))))) := by
  refine PS.imp (ps_setLc (g := gRd X sl g) (tt := Rdg X FX RB t) (te := Rdg X FX (RV X) f) hc hN hy hyl hsw hi ok (fun s H C cl fp => hg s H C cl fp) (fun s H C cl fp => ht s H C cl fp) (fun s H C cl fp => he s H C cl fp) hs) ?_
  rintro D σ H ⟨env, L, al, T, c, h⟩
  refine lc_red hv (fun _ _ _ h => h) (fun _ _ _ _ h => h) (fun _ _ _ h => h) (fun _ _ _ h => h) ⟨env, L, al, T, c, ?_⟩
  unfold sSet eDat at h
  revert h
  generalize fComp s g t f (own.map (·.2)) env L = r
  intro h
  cases r with
  | stuck => exact h
  | exc c' f' L1 => exact fun cls d H' al' s e => h cls d σ H' al' s (c.stp s) e
  | ok o L1 =>
    intro a H' al' ha st ob
    simp only [Res.bind_ok] at h
    cases e : o.va with
    | none => rw [e] at h; exact h.elim
    | some w =>
      rw [e] at h
      have r := st.rel
      have na : a ∉ al' ++ T := fun z => by
        rcases List.mem_append.mp z with z | z
        · exact r.dis a z List.mem_cons_self
        · exact (c.rel.fresh ha).2 z
      have m : Le (mask H' (al' ++ (a :: T))) (mask H' (al' ++ T)) := fun b u e => by
        obtain ⟨n, e⟩ := of_mask e
        exact mask_of (fun z => n (by simp only [List.mem_append, List.mem_cons] at z ⊢; exact z.imp id .inr)) e
      have st' := Stp.drop (te := [a]) (fun b hb => by have : b = a := by simpa using hb
                                                       rw [this]; exact ha) st
      exact h _ H' al' st' ((c.stp st').put (va_ok na m ob e))
/-- .. as a cell -/
theorem ss_newComp {i : Nat} {y : Str} {py : Pos} {elt tg iter : Expr} {ifs : List Expr} {scope : Scope} {own : List (Str × Nat)} {pos spos : Pos} {s : Srcf} {sl : List Nat} {g : Va → En → LH → Res En} {t : En → LH → Res Bool} {f : EF} (hc : X.calm = true) (hN : X.N.Nodup) (hy : X.N[i]? = some y) (hyl : X.env.scope.names.lookup y = some .local)
    (hsw : swapsWith (.ListComp elt [⟨tg, iter, ifs, 0⟩] scope pos) (some (.Name y py)) spos.line X.env = pure true) (hi : SI X Wx tg iter s) (ok : BlkOk X.N X.env.scope scope own)
    (hv : ∀ j ∈ sl, j ∈ own.map (·.2)) (hg : BlkP X scope fun X => SG X sl tg g) (ht : BlkP X scope fun X => STs X FX ifs t) (he : BlkP X scope fun X => SE X FX elt f) (hs : ∀ x, foldedSetIterable iter X.env x = pure x := by intro _; rfl) :
    SS X Wx (.Assign [.Name y py] (.ListComp elt [⟨tg, iter, ifs, 0⟩] scope pos) spos) (sSet i (eNew (fComp s g t f (own.map (·.2))))) := by
  refine PS.imp (ps_setLc (g := gRd X sl g) (tt := Rdg X FX RB t) (te := Rdg X FX (RV X) f) hc hN hy hyl hsw hi ok (fun s H C cl fp => hg s H C cl fp) (fun s H C cl fp => ht s H C cl fp) (fun s H C cl fp => he s H C cl fp) hs) ?_
  rintro D σ H ⟨env, L, al, T, c, h⟩
  refine lc_red hv (fun _ _ _ h => h) (fun _ _ _ _ h => h) (fun _ _ _ h => h) (fun _ _ _ h => h) ⟨env, L, al, T, c, ?_⟩
  unfold sSet eNew at h
  revert h
  generalize fComp s g t f (own.map (·.2)) env L = r
  intro h
  cases r with
  | stuck => exact h
  | exc c' f' L1 => exact fun cls d H' al' s e => h cls d σ H' al' s (c.stp s) e
  | ok o L1 =>
    intro a H' al' ha st ob
    have st' := Stp.cell c.rel ha st ob
    refine h _ H' (al' ++ [a]) st' ((c.stp st').put (.loc ?_))
    rw [← st.rel.len, List.getElem?_append_right (Nat.le_refl _), Nat.sub_self]
    rfl
end
end L2.HW
/-! SemL: functions and calls. -/
namespace L2.HW
open PySem PySem.Spec PyProof.Rows
/-- a function: what it does with its arguments and the cells -/
abbrev Fn := List Va → LH → Res Va
mutual
/-- no cell from n0 on -/
def Va.low (n0 : Nat) : Va → Bool
  | .loc n => decide (n < n0)
  | .tup ws => lows n0 ws
  | .d _ => true
  | .dct _ => true
  | .exc _ _ => true
  | .scr _ => true
def lows (n0 : Nat) : List Va → Bool
  | [] => true
  | w :: r => w.low n0 && lows n0 r
end
def Ob.low (n0 : Nat) : Ob → Bool
  | .lst ws => lows n0 ws
  | .di kvs => kvs.all fun p => p.2.low n0
  | .dt kvs => kvs.all fun p => p.2.low n0
  | .ins _ fs => fs.all fun p => p.2.low n0
@[simp] theorem low_d (n0 : Nat) (x : PyData) : (Va.d x).low n0 = true := by simp [Va.low]
@[simp] theorem lows_d (n0 : Nat) : ∀ (xs : List PyData), lows n0 (xs.map Va.d) = true
  | [] => by simp [lows]
  | x :: xs => by simp [lows, lows_d n0 xs]
section
variable {K : PySem.W.Frag} {mg : Str → Option Value}
mutual
theorem rp_low {M : Hp} {al : List Addr} : ∀ {v : V} {w : Va}, Rp K mg M al v w → w.low al.length = true
  | _, _, .d q => by simp
  | _, _, .loc e => by simpa [Va.low] using (List.getElem?_eq_some_iff.mp e).1
  | _, _, .scr q => by simp [Va.low]
  | _, _, .tup q r => by simpa [Va.low] using rps_low r
  | _, _, .dct e q => by simp [Va.low]
  | _, _, .exc e q => by simp [Va.low]
theorem rps_low {M : Hp} {al : List Addr} : ∀ {v : List V} {w : List Va}, Rps K mg M al v w → lows al.length w = true
  | _, _, .nil => by simp [lows]
  | _, _, .cons a b => by simp [lows, rp_low a, rps_low b]
end
mutual
theorem low_rp {M M' : Hp} {al be : List Addr} (h : Le M M') : ∀ {v : V} {w : Va}, Rp K mg M (al ++ be) v w → w.low al.length = true → Rp K mg M' al v w
  | _, _, .d q, _ => .d (Dq.le h q)
  | _, _, .loc (n := n) e, l => by
    have l : n < al.length := by simpa [Va.low] using l
    exact .loc (by rw [List.getElem?_append_left l] at e; exact e)
  | _, _, .scr q, _ => .scr (SqL.le h q)
  | _, _, .tup q r, l => .tup (h _ _ q) (low_rps h r (by simpa [Va.low] using l))
  | _, _, .dct e q, _ => .dct (h _ _ e) (KDp.le h q)
  | _, _, .exc e q, _ => .exc (h _ _ e) (ExR.le h q)
theorem low_rps {M M' : Hp} {al be : List Addr} (h : Le M M') : ∀ {v : List V} {w : List Va}, Rps K mg M (al ++ be) v w → lows al.length w = true → Rps K mg M' al v w
  | _, _, .nil, _ => .nil
  | _, _, .cons (b := w) (l₂ := ws) a b, l => by
    have l : w.low al.length = true ∧ lows al.length ws = true := by simpa [lows] using l
    exact .cons (low_rp h a l.1) (low_rps h b l.2)
end
theorem pall {α β : Type} {F : α → β → Prop} {p : β → Bool} (h : ∀ a b, F a b → p b = true) : ∀ {xs : List α} {ys : List β}, Paired F xs ys → ys.all p = true
  | _, _, .nil => rfl
  | _, _, .cons a b => by simp only [List.all_cons, Bool.and_eq_true]; exact ⟨h _ _ a, pall h b⟩
theorem pmapall {α β : Type} {F G : α → β → Prop} {p : β → Bool} (h : ∀ a b, F a b → p b = true → G a b) : ∀ {xs : List α} {ys : List β}, Paired F xs ys → ys.all p = true → Paired G xs ys
  | _, _, .nil, _ => .nil
  | _, _, .cons a b, l => by
    simp only [List.all_cons, Bool.and_eq_true] at l
    exact .cons (h _ _ a l.1) (pmapall h b l.2)
theorem ob_low {M H : Hp} {al : List Addr} {a : Addr} : ∀ {o : Ob}, ObR K mg M al H a o → o.low al.length = true
  | .lst ws, ⟨vs, e, r⟩ => rps_low r
  | .di kvs, ⟨ks, e, r⟩ => pall (fun _ _ q => rp_low q.2) r
  | .dt kvs, ⟨ks, e, r⟩ => pall (fun _ _ q => rp_low q.2) r
  | .ins c fs, ⟨C, dx, ks, e1, e2, r⟩ => pall (fun _ _ q => rp_low q.2) r
theorem low_ob {M M' H : Hp} {al be : List Addr} (h : Le M M') {a : Addr} : ∀ {o : Ob}, ObR K mg M (al ++ be) H a o → o.low al.length = true → ObR K mg M' al H a o
  | .lst ws, ⟨vs, e, r⟩, l => ⟨vs, e, low_rps h r l⟩
  | .di kvs, ⟨ks, e, r⟩, l => ⟨ks, e, pmapall (fun _ _ q n => ⟨q.1, low_rp h q.2 n⟩) r l⟩
  | .dt kvs, ⟨ks, e, r⟩, l => ⟨ks, e, pmapall (fun _ _ q n => ⟨q.1, low_rp h q.2 n⟩) r l⟩
  | .ins c fs, ⟨C, dx, ks, e1, e2, r⟩, l => ⟨C, dx, ks, e1, e2, pmapall (fun _ _ q n => ⟨q.1, low_rp h q.2 n⟩) r l⟩
end
/-- the old cells: as they were, or with nothing new in them -/
def Kept (L L' : LH) : Prop := ∀ n, n < L.length → L'[n]? = L[n]? ∨ ∃ o, L'[n]? = some (some o) ∧ o.low L.length = true
theorem kept_app (L g : LH) : Kept L (L ++ g) := fun n h => .inl (List.getElem?_append_left h)
@[simp] theorem kept_app' (L g : LH) : Kept L (L ++ g) ↔ True := iff_true_intro (kept_app L g)
@[simp] theorem kept_self (L : LH) : Kept L L ↔ True := iff_true_intro fun n h => .inl rfl
/-! ### what a function gives: nothing of its own stays a cell -/
def mapO {α β : Type} (f : α → Option β) : List α → Option (List β)
  | [] => some []
  | a :: r => match f a with
    | some b => match mapO f r with
      | some bs => some (b :: bs)
      | none => none
    | none => none
/-- a list or dict becomes data -/
def settle (L : LH) (n0 : Nat) : Nat → Va → Option Va
  | 0, w => match w with
    | .d x => some (.d x)
    | _ => none
  | k + 1, w => match w with
    | .d x => some (.d x)
    | .loc n => if n < n0 then some (.loc n) else match L[n]? with
      | some (some (.lst ws)) => match mapO (settle L n0 k) ws with
        | some us => (datas us).map fun xs => .d (.list xs)
        | none => none
      | some (some (.di kvs)) => match mapO (fun p : Int × Va => match settle L n0 k p.2 with
            | some (.d x) => some (p.1, x)
            | _ => none) kvs with
        | some ks => some (.dct ks)
        | none => none
      | _ => none
    | .tup ws => match mapO (settle L n0 k) ws with
      | some us => some (mkTup us)
      | none => none
    | w => some w
def settleO (L : LH) (n0 : Nat) (k : Nat) : Ob → Option Va
  | .lst ws => match mapO (settle L n0 k) ws with
    | some us => (datas us).map fun xs => .d (.list xs)
    | none => none
  | .di kvs => match mapO (fun p : Int × Va => match settle L n0 k p.2 with
        | some (.d x) => some (p.1, x)
        | _ => none) kvs with
    | some ks => some (.dct ks)
    | none => none
  | _ => none
theorem settle_loc (L : LH) (n0 k n : Nat) : settle L n0 (k + 1) (.loc n) = if n < n0 then some (.loc n) else match L[n]? with
    | some (some o) => settleO L n0 k o
    | _ => none := by
  conv => lhs; unfold settle
  by_cases h : n < n0
  · simp [h]
  · simp only [h, if_false]
    cases e : L[n]? with
    | none => rfl
    | some o =>
      cases o with
      | none => rfl
      | some o => cases o <;> rfl
@[simp] theorem settle_d (L : LH) (n0 k : Nat) (x : PyData) : settle L n0 k (.d x) = some (.d x) := by cases k <;> rfl
theorem mapO_settle_d (L : LH) (n0 k : Nat) : ∀ xs : List PyData, mapO (settle L n0 k) (xs.map Va.d) = some (xs.map Va.d)
  | [] => rfl
  | x :: xs => by simp [mapO, mapO_settle_d L n0 k xs]
@[simp] theorem settleO_d (L : LH) (n0 k : Nat) (xs : List PyData) : settleO L n0 k (.lst (xs.map Va.d)) = some (.d (.list xs)) := by simp [settleO, mapO_settle_d]
section
variable {K : PySem.W.Frag} {mg : Str → Option Value} {H H' : Hp} {al al' T be : List Addr} {L L' : LH}
theorem mapO_rps {M M' : Hp} {f : Va → Option Va} {al al' : List Addr} (hf : ∀ v w u, Rp K mg M al v w → f w = some u → Rp K mg M' al' v u) : ∀ {vs : List V} {ws us : List Va}, Rps K mg M al vs ws → mapO f ws = some us → Rps K mg M' al' vs us
  | _, _, us, .nil, e => by cases e; exact .nil
  | _, _, us, .cons (b := w) (l₂ := ws) a b, e => by
    unfold mapO at e
    split at e
    · rename_i u e1
      split at e
      · rename_i us' e2
        cases e
        exact .cons (hf _ _ _ a e1) (mapO_rps hf b e2)
      · cases e
    · cases e
theorem mask_more (H : Hp) (al be T : List Addr) : Le (mask H ((al ++ be) ++ T)) (mask H (al ++ T)) := fun b o e => by
  obtain ⟨n, e⟩ := of_mask e
  refine mask_of (fun z => n ?_) e
  simp only [List.mem_append] at z ⊢
  rcases z with z | z
  · exact .inl (.inl z)
  · exact .inr z
theorem settle_ok {L0 : LH} (r0 : al.length = L0.length) (r : Rel K mg H' (al ++ be) T L') : ∀ (k : Nat), (∀ (v : V) (w u : Va), Rp K mg (mask H' ((al ++ be) ++ T)) (al ++ be) v w → settle L' L0.length k w = some u → Rp K mg (mask H' (al ++ T)) al v u) ∧
    (∀ (a : Addr) (o : Ob) (u : Va), a ∉ al → a ∉ T → ObR K mg (mask H' ((al ++ be) ++ T)) (al ++ be) H' a o → settleO L' L0.length k o = some u → Rp K mg (mask H' (al ++ T)) al (.ref a) u) := by
  have m := mask_more H' al be T
  have hO : ∀ k, (∀ (v : V) (w u : Va), Rp K mg (mask H' ((al ++ be) ++ T)) (al ++ be) v w → settle L' L0.length k w = some u → Rp K mg (mask H' (al ++ T)) al v u) →
      (∀ (a : Addr) (o : Ob) (u : Va), a ∉ al → a ∉ T → ObR K mg (mask H' ((al ++ be) ++ T)) (al ++ be) H' a o → settleO L' L0.length k o = some u → Rp K mg (mask H' (al ++ T)) al (.ref a) u) := by
    intro k ih a o u na nT q e
    have hn : a ∉ al ++ T := by simp [na, nT]
    cases o with
    | lst ws =>
      obtain ⟨vs, h1, h2⟩ := q
      simp only [settleO] at e
      split at e
      · rename_i us e1
        cases e5 : datas us with
        | none => rw [e5] at e; cases e
        | some xs =>
          rw [e5] at e
          cases e
          have h3 := mapO_rps ih h2 e1
          rw [datas_eq e5] at h3
          exact .d (.lst (mask_of hn h1) (dq_all h3))
      · cases e
    | di kvs =>
      obtain ⟨ks, h1, h2⟩ := q
      simp only [settleO] at e
      split at e
      · rename_i us e1
        cases e
        refine .dct (mask_of hn h1) ?_
        have go : ∀ {ks : List (Key × V)} {kvs : List (Int × Va)} {us : List (Int × PyData)}, KRp K mg (mask H' ((al ++ be) ++ T)) (al ++ be) ks kvs → mapO (fun p : Int × Va => match settle L' L0.length k p.2 with
            | some (.d x) => some (p.1, x)
            | _ => none) kvs = some us → KDp (mask H' (al ++ T)) ks us := by
          intro ks kvs us h
          induction h generalizing us with
          | nil => intro e; cases e; exact .nil
          | @cons p q ps qs h1 _ ih2 =>
            intro e
            unfold mapO at e
            split at e
            · rename_i b e2
              split at e
              · rename_i bs e3
                cases e
                split at e2
                · rename_i x e4
                  cases e2
                  have h5 := ih _ _ _ h1.2 e4
                  exact .cons ⟨h1.1, rp_d h5⟩ (ih2 e3)
                · cases e2
              · cases e
            · cases e
        exact go h2 e1
      · cases e
    | dt _ => cases e
    | ins _ _ => cases e
  intro k
  induction k with
  | zero =>
    have h0 : ∀ (v : V) (w u : Va), Rp K mg (mask H' ((al ++ be) ++ T)) (al ++ be) v w → settle L' L0.length 0 w = some u → Rp K mg (mask H' (al ++ T)) al v u := by
      intro v w u q e
      cases q with
      | d q => cases e; exact .d (Dq.le m q)
      | loc _ => cases e
      | tup _ _ => cases e
      | dct _ _ => cases e
      | exc _ _ => cases e
      | scr _ => cases e
    exact ⟨h0, hO 0 h0⟩
  | succ k ih =>
    have h0 : ∀ (v : V) (w u : Va), Rp K mg (mask H' ((al ++ be) ++ T)) (al ++ be) v w → settle L' L0.length (k + 1) w = some u → Rp K mg (mask H' (al ++ T)) al v u := by
      intro v w u q e
      cases q with
      | d q => cases e; exact .d (Dq.le m q)
      | @loc n a e1 =>
        rw [settle_loc] at e
        split at e
        · rename_i hlt
          cases e
          exact .loc (by rw [List.getElem?_append_left (by omega)] at e1; exact e1)
        · rename_i hlt
          split at e
          · rename_i o e2
            obtain ⟨b, e3, q3⟩ := r.cell n o e2
            rw [e1] at e3; cases e3
            have ha : a ∈ be := by
              rw [List.getElem?_append_right (by omega)] at e1
              exact List.mem_of_getElem? e1
            have na : a ∉ al := fun z => (List.nodup_append.mp r.nd).2.2 a z a ha rfl
            exact ih.2 a o u na (r.dis a (List.mem_append_right _ ha)) q3 e
          · cases e
      | tup e1 e2 =>
        simp only [settle] at e
        split at e
        · rename_i us e3
          cases e
          exact rp_mkTup (m _ _ e1) (mapO_rps ih.1 e2 e3)
        · cases e
      | dct e1 e2 => cases e; exact .dct (m _ _ e1) (KDp.le m e2)
      | exc e1 e2 => cases e; exact .exc (m _ _ e1) (ExR.le m e2)
      | scr e1 => cases e; exact .scr (SqL.le m e1)
    exact ⟨h0, hO (k + 1) h0⟩
theorem exitS (r0 : Rel K mg H al T L) (s : Stp K mg H al T L H' al' T L') (hk : Kept L L') : Stp K mg H al T L H' al T (L'.take L.length) := by
  obtain ⟨be, e, f⟩ := s.ext
  subst e
  have r := s.rel
  have hl : L.length ≤ L'.length := by have := r.len; have := r0.len; simp at *; omega
  have tk : ∀ n, n < L.length → (L'.take L.length)[n]? = L'[n]? := fun n hn => by rw [List.getElem?_take_of_lt hn]
  refine ⟨⟨by rw [List.length_take, r0.len]; omega, r0.nd, r0.dis, fun a h => r.trk a (h.imp (List.mem_append_left _) id), fun n o en => ?_⟩, ⟨[], by simp, fun _ z => nomatch z⟩, ⟨[], by simp, fun _ z => nomatch z⟩, s.frame, s.stay, fun n en => ?_, fun n o en => ?_⟩
  · have hn : n < L.length := by
      have := (List.getElem?_eq_some_iff.mp en).1
      rw [List.length_take] at this; omega
    rw [tk n hn] at en
    obtain ⟨a, e1, q⟩ := r.cell n o en
    have e1' : al[n]? = some a := by rw [List.getElem?_append_left (by rw [r0.len]; exact hn)] at e1; exact e1
    have lo : o.low al.length = true := by
      rcases hk n hn with z | ⟨o', z, l⟩
      · rw [en] at z
        obtain ⟨b, e2, q2⟩ := r0.cell n o z.symm
        exact ob_low q2
      · rw [en] at z
        cases z
        rw [r0.len]; exact l
    exact ⟨a, e1', low_ob (mask_more H' al be T) q lo⟩
  · rw [tk n (List.getElem?_eq_some_iff.mp en).1]; exact s.lck n en
  · rw [tk n (List.getElem?_eq_some_iff.mp en).1]; exact s.alv n o en
end
open Classical in
noncomputable def outV (L L' : LH) : Option Va → Res Va
  | some w => if Kept L L' then .ok w (L'.take L.length) else .stuck
  | none => .stuck
open Classical in
/-- a def: np parameters, nl slots in all -/
noncomputable def mkFn (np nl : Nat) (body : SFn) : Fn := fun ws L => if ws.length = np then match body (ws.map some ++ List.replicate (nl - ws.length) none) L with
    | .nx _ L' => outV L L' (some (.d .none))
    | .rt w L' => outV L L' (settle L' L.length 9 w)
    | .rf o L' => outV L L' (settleO L' L.length 9 o)
    | .exc c f _ L' => if Kept L L' then .exc c f (L'.take L.length) else .stuck
    | _ => .stuck
  else .stuck
/-- where a function does not go -/
def NP (np : Nat) (F : Fn) : Prop := ∀ ws L, ws.length ≠ np → F ws L = .stuck
theorem np_mk {np nl : Nat} {body : SFn} : NP np (mkFn np nl body) := fun ws L h => by unfold mkFn; rw [if_neg h]
def noF : Fn := fun _ _ => .stuck
theorem np_no {np : Nat} : NP np noF := fun _ _ _ => rfl
def NPost (K : PySem.W.Frag) (mg : Str → Option Value) (H : Hp) (al T : List Addr) (L : LH) (r : Res Va) (Q : VK) (E : XK) : Prop := match r with
  | .ok w L' => ∀ v H' al', Stp K mg H al T L H' al' T L' → Rp K mg (mask H' (al' ++ T)) al' v w → Q v H'
  | .exc c f L' => ∀ cls d H' al', Stp K mg H al T L H' al' T L' → ExR mg (mask H' (al' ++ T)) c f cls d → E cls d H'
  | .stuck => False
/-- a function's promise -/
def spOf (K : PySem.W.Frag) (mg : Str → Option Value) (np : Nat) (F : Fn) : Sp := fun vs H Q E => vs.length = np ∧ ∃ ws al T L, Rel K mg H al T L ∧ Rps K mg (mask H (al ++ T)) al vs ws ∧ NPost K mg H al T L (F ws L) Q E
theorem conf_start {K : PySem.W.Frag} {mg : Str → Option Value} {N : List Str} {H : Hp} {al T : List Addr} {L : LH} {vs : List V} {ws : List Va} (r : Rel K mg H al T L) (rs : Rps K mg (mask H (al ++ T)) al vs ws) (hl : vs.length ≤ N.length) :
    Conf K mg (L2.start N vs) H (ws.map some ++ List.replicate (N.length - ws.length) none) L al T := by
  have e := Paired.length rs
  refine ⟨r, ?_, fun i w h => ?_⟩
  · unfold L2.start
    simp only [List.length_append, List.length_map, List.length_replicate]
    omega
  · have hi : i < ws.length := by
      by_cases hi : i < ws.length
      · exact hi
      · rw [List.getElem?_append_right (by simpa using hi), List.getElem?_replicate] at h
        split at h <;> cases h
    rw [List.getElem?_append_left (by simpa using hi), List.getElem?_map] at h
    cases e2 : ws[i]? with
    | none => rw [e2] at h; cases h
    | some u =>
      rw [e2] at h
      cases h
      have go : ∀ {vs : List V} {ws : List Va} {i : Nat}, Rps K mg (mask H (al ++ T)) al vs ws → ws[i]? = some w → ∃ v, vs[i]? = some v ∧ Rp K mg (mask H (al ++ T)) al v w := by
        intro vs ws i h
        induction h generalizing i with
        | nil => intro e; simp at e
        | @cons v u vs us a b ih =>
          intro e
          cases i with
          | zero => simp at e; subst e; exact ⟨v, rfl, a⟩
          | succ i => exact ih (by simpa using e)
      obtain ⟨v, h1, h2⟩ := go rs e2
      refine ⟨v, ?_, h2⟩
      unfold L2.start
      rw [List.getElem?_append_left (by simpa using (List.getElem?_eq_some_iff.mp h1).1), List.getElem?_map, h1]
      rfl
/-! ### a function object keeps a promise, called where no repr is under way -/
structure FnG (P : Program) (w : World) (K : PySem.W.Frag) (mg : Str → Option Value) (base : Heap) (CX : CXT) (k : Nat) (f : Addr) (fd : FuncData) (ps : List Str) (sp : Sp) : Prop where
  ln : ∀ us H Q E, sp us H Q E → us.length = ps.length
  go : ∀ (A : Around) (out : List Env) (s : Shared) (H : Hp) (ar : Args) (us : List Value) (vs : List V) (Q : VK) (E : XK), A.guards = some [] → Room k A →
    Env0 P w K mg base A out s H → BindsTo s fd ar (ps.zip us) → Vals vs us → sp vs H Q E → codeAny (model P w) A (.call (.ref f) ar) (CR CX out P w H s Q E) s
theorem FnG.more {P : Program} {w : World} {K : PySem.W.Frag} {mg : Str → Option Value} {base : Heap} {CX : CXT} {i k : Nat} {f : Addr} {fd : FuncData} {ps : List Str} {sp : Sp}
    (F : FnG P w K mg base CX i f fd ps sp) (h : i ≤ k) : FnG P w K mg base CX k f fd ps sp :=
  ⟨F.ln, fun A out s H ar us vs Q E hg hr => F.go A out s H ar us vs Q E hg (hr.mono h)⟩
/-- by its body -/
theorem fnG_of {CX : CXT} {P : Program} {w : World} {K : PySem.W.Frag} {mg : Str → Option Value} {base : Heap} {k : Nat} {f : Addr} {nm qual : Str} {pars : Arguments} {body : List Stmt} {sc : Scope}
    {dvs : List V} {kws : List (Str × V)} {fd : FuncData} {N ps : List Str} {sp : Sp} (F : FunD K nm qual pars body sc dvs kws f fd) (S : FnScope N ps sc)
    (ln : ∀ us H Q E, sp us H Q E → us.length = ps.length)
    (hb : ∀ (cd : Value) (A : Around) (out : List Env) (s : Shared) (H : Hp) (vs : List V) (Q : VK) (E : XK), A.guards = some [] → Room k (A.deeper (envOfC qual sc s.heap.objs.size f cd)) → sp vs H Q E →
      ∃ t, PSs (cxOf CX P w K mg base N qual sc f cd A out s H E) body t ∧ t { nx := fun _ H1 => Q .non H1, rt := Q } (L2.start N vs) H) :
    FnG P w K mg base CX (k + 1) f fd ps sp := by
  obtain ⟨oc, od, dV, kV, doc, pm, an, cd, ct, osl, rfl, lk, hcode, _, _⟩ := F.ex
  refine ⟨ln, ?_⟩
  intro A out s H ar us vs Q E hg hr en bt rv hsp
  have kin : K.In s.heap := en.mod.kin.keeps fun b o z => (en.bs b o z).1
  have nl : s.heap.NoLimit := en.mod.nolimit.keeps fun b o z => (en.bs b o z).1
  have hk : ∀ z ∈ ps.zip us, sc.names.lookup z.1 = some .local ∨ (sc.names.lookup z.1 = some .cell ∧ ((cellsFrom (s.heap.objs.size + 1) sc.names []).lookup z.1).isSome = true) := by
    rintro ⟨n, v⟩ hz
    exact (S.par n (List.of_mem_zip hz).1).imp id fun q => ⟨q, PySem.W.cellsFrom_some _ _ _ (.inl q)⟩
  refine codeAny_call_function hr.depth (kin _ _ lk) rfl S.co S.gen rfl (PySem.W.codeRec_of kin hcode) (bt _ _ _ _ ?_)
  refine wpAny_newFunctionEnv_cells S.kind hk fun env ee s1 fresh => ?_
  subst ee
  refine ⟨nl.keeps fresh.toInCall.keep, codeAny_func ?_⟩
  obtain ⟨t, run, start⟩ := hb cd A out s H vs Q E hg (hr.deeper _) hsp
  have inv := inv_start (E := E) (CX := CX) S hr.hd en (ln _ _ _ _ hsp) rv fresh
  refine wpAny_mono (run.run [] s1 (L2.start N vs) H _ inv start) (fun fl s2 z => ?_) fun _ _ z => z
  match fl, z with
  | .ret u, ⟨v, σ2, H2, J, r2, q⟩ => exact ⟨v, H2, J.os, J.bare, J.base, J.hok, r2, q⟩
  | .next, ⟨σ2, H2, J, q⟩ => exact ⟨.non, H2, J.os, J.bare, J.base, J.hok, rfl, q⟩
  | .brk, ⟨_, _, _, q⟩ => exact q.elim
  | .cont, ⟨_, _, _, q⟩ => exact q.elim
theorem run_fnG {X : Cx} {CX : CXT} {k : Nat} {f : Addr} {fd : FuncData} {ps : List Str} {sp : Sp} {E : St → XK} {pins : List (Addr × Obj)} {σ : St} {H : Hp} {s : Shared} {Q : VK} {us : List Value} {vs : List V}
    (F : FnG X.prog X.w X.K X.mg X.base CX k f fd ps sp) (hg : X.A.guards = some []) (hr : Room k X.A) (hb : Binds X.K fd ps []) (hx : PassesAt CX X σ (E σ)) (I : Inv X pins σ H s) (rv : Vals vs us) (h : sp vs H Q (E σ)) :
    wpAny (model X.prog X.w) X.A (call (.ref f) us) (EP X pins σ Q) X.xe s := by
  have bt : BindsTo s fd ⟨us, []⟩ (ps.zip us) := by
    have z := hb s us I.kIn (by rw [List.append_nil, ← rv.length]; exact F.ln _ _ _ _ h)
    rwa [List.append_nil] at z
  refine wpAny_call (codeAny_mono (F.go X.A X.stack s H ⟨us, []⟩ us vs Q (E σ) hg hr I.env0 bt rv h) ?_)
  intro r s2 z
  match r, z with
  | .error e, z => exact hx pins H s e s2 I z
  | .ok (.ret u), z => exact I.after z
  | .ok .next, z => exact z.elim
  | .ok .brk, z => exact z.elim
  | .ok .cont, z => exact z.elim
section
variable {P : Program} {w : World} {K : PySem.W.Frag} {mg : Str → Option Value} {base : Heap} {x qual : Str} {params : Arguments} {body : List Stmt} {scope : Scope} {dvs : List V} {kws : List (Str × V)} {f : Addr} {fd : FuncData}
abbrev WxE (E : XK) : WX := fun cls d _ H => E cls d H
/-- a body's end is the function's -/
theorem body_end {K : PySem.W.Frag} {mg : Str → Option Value} {H : Hp} {al T : List Addr} {L : LH} {X : Cx} (hK : X.K = K) (hmg : X.mg = mg) {Q : VK} {E : XK} {np nl : Nat} {bf : SFn} {ws : List Va} (r0 : Rel K mg H al T L) (hl : ws.length = np)
    (h : NPost K mg H al T L (mkFn np nl bf ws L) Q E) : SPost X (WxE E) H al T L (bf (ws.map some ++ List.replicate (nl - ws.length) none) L) { nx := fun _ H' => Q .non H', rt := Q } := by
  subst hK hmg
  unfold mkFn at h
  rw [if_pos hl] at h
  revert h
  generalize bf (ws.map some ++ List.replicate (nl - ws.length) none) L = r
  intro h
  have one : ∀ (o : Option Va) (L' : LH) (v : V) (H' : Hp) (al' : List Addr), NPost X.K X.mg H al T L (outV L L' o) Q E → Stp X.K X.mg H al T L H' al' T L' → (∀ u be, al' = al ++ be → o = some u → Rp X.K X.mg (mask H' (al ++ T)) al v u) → Q v H' := by
    intro o L' v H' al' h s k
    cases o with
    | none => exact h.elim
    | some u =>
      simp only [outV] at h
      split at h
      · rename_i hk
        obtain ⟨be, e, _⟩ := s.ext
        exact h v H' al (exitS r0 s hk) (k u be e rfl)
      · exact h.elim
  cases r with
  | nx env' L' => exact fun σ' H' al' s c => one _ L' .non H' al' h s fun u be e eu => by cases eu; exact .d .non
  | rt u L' =>
      intro v H' al' s q
      refine one _ L' v H' al' h s fun u' be e eu => ?_
      subst e
      exact (settle_ok r0.len s.rel 9).1 v u u' q eu
  | rf o L' =>
      intro a H' al' ha s q
      have s' := Stp.drop (te := [a]) (fun b hb => by have : b = a := by simpa using hb
                                                      rw [this]; exact ha) s
      refine one _ L' (.ref a) H' al' h s' fun u' be e eu => ?_
      subst e
      have n := r0.fresh ha
      refine (settle_ok r0.len s'.rel 9).2 a o u' n.1 n.2 ?_ eu
      have m : Le (mask H' ((al ++ be) ++ (a :: T))) (mask H' ((al ++ be) ++ T)) := fun b u e => by
        obtain ⟨n, e⟩ := of_mask e
        exact mask_of (fun z => n (by simp only [List.mem_append, List.mem_cons] at z ⊢; exact z.imp id .inr)) e
      exact ObR.le m (ALe.refl _) (fun _ z => z) q
  | bk _ _ => exact h.elim
  | ct _ _ => exact h.elim
  | exc c f env' L' =>
    intro cls d σ' H' al' s _ q
    simp only at h
    split at h
    · rename_i hk
      obtain ⟨be, e, _⟩ := s.ext
      subst e
      exact h cls d H' al (exitS r0 s hk) (ExR.le (mask_more H' al be T) q)
    · exact h.elim
  | stuck => exact h.elim
/-- a def keeps the promise of its body -/
theorem fn_body (F : FunD K x qual params body scope dvs kws f fd) {N ps : List Str} {k np nl : Nat} {bf : SFn} (S : FnScope N ps scope) (hnp : ps.length = np) (hnl : N.length = nl) (hle : np ≤ nl)
    (hb : ∀ (cdv : Value) (A : Around) (outer : List Env) (s : Shared) (H : Hp) (E : XK), A.guards = some [] → Room k (A.deeper (envOfC qual scope s.heap.objs.size f cdv)) → SB (cxOf (L2.CX P w) P w K mg base N qual scope f cdv A outer s H E) (WxE E) body bf) :
    FnG P w K mg base (L2.CX P w) (k + 1) f fd ps (spOf K mg np (mkFn np nl bf)) := by
  refine fnG_of F S (fun vs H Q E h => by rw [h.1, hnp]) (fun cdv A outer s H vs Q E hg hr h => ⟨_, hb cdv A outer s H E hg hr, ?_⟩)
  obtain ⟨hl, ws, al, T, L, r, rs, h⟩ := h
  have e := Paired.length rs
  subst hnl
  refine ⟨_, L, al, T, conf_start r rs (by omega), ?_⟩
  exact body_end (X := cxOf (L2.CX P w) P w K mg base N qual scope f cdv A outer s H E) rfl rfl r (by omega) h
/-- where nothing is promised -/
theorem fn_no {k : Nat} {ps : List Str} {np : Nat} : FnG P w K mg base (L2.CX P w) k f fd ps (spOf K mg np noF) :=
  ⟨fun vs H Q E h => by obtain ⟨_, _, _, _, _, _, _, h⟩ := h; exact h.elim, fun A outer s H args us vs Q E _ _ _ _ _ h => by obtain ⟨_, _, _, _, _, _, _, h⟩ := h; exact h.elim⟩
end
/-! ### calls -/
section
variable {X : Cx} {Wx : WX} {k : Nat} {f : Addr} {fd : FuncData} {ps : List Str} {np : Nat} {F : Fn} {x : Str} {p pos : Pos} {e : Expr} {es : List Expr} {fs : En → LH → Res (List Va)}
def eCall (F : Fn) (fs : En → LH → Res (List Va)) : EF := fun env L => (fs env L).bind F
theorem call_sp {σ : St} {H : Hp} {Q : VK} (n : NP np F) (h : Rdg X Wx (RV X) (eCall F fs) σ H Q) : tCallS (spOf X.K X.mg np F) (WE Wx) (Rdg X Wx (RVs X) fs) σ H Q := by
  obtain ⟨env, L, al, T, c, q⟩ := h
  refine rseq (R := RVs X) c q fun vs H1 ws L1 al1 c1 s1 r1 q1 => ?_
  have hl : ws.length = np := by
    by_cases z : ws.length = np
    · exact z
    · rw [n ws L1 z] at q1; exact q1.elim
  refine ⟨by rw [Paired.length r1, hl], ws, al1, T, L1, c1.rel, r1, ?_⟩
  revert q1
  generalize F ws L1 = r
  intro q1
  cases r with
  | ok w L2 => exact fun v H' al' s q => q1 v H' al' s q
  | exc c f L2 => exact fun cls d H' al' s q => q1 cls d H' al' s q
  | stuck => exact q1
theorem pe_callG {sp : Sp} {E : St → XK} {t : TA} (G : FnG X.prog X.w X.K X.mg X.base (L2.CX X.prog X.w) k f fd ps sp) (hg0 : X.A.guards = some []) (hr : Room k X.A) (hg : Gl X x) (hm : X.mg x = some (.ref f)) (hk : PySem.W.keepIn X.K (.ref f) = true)
    (hb : Binds X.K fd ps []) (hx : ∀ σ, PassesAt (L2.CX X.prog X.w) X σ (E σ)) (ha : PA X (e :: es) t) (hdb : (x == ("__debug__" : Str)) = false) (he : starEach (e :: es) X.env = (false, eval e X.env) :: starEach es X.env)
    (hpl : (backTo pos (starEach es X.env)).any (·.1) = false) : PE X (.Call (.Name x p) (e :: es) [] pos) (tCallS sp E t) := by
  refine ⟨fun pins s σ H Q I h => wpAny_Call_Name_kw (ld_glob I hg hm ?_ hdb)⟩
  exact PySem.W.callWith_K (h₀ := X.base) I.ok.mod.kin hk (thn (ha.run pos pins s σ H _ I h) fun us s1 ⟨vs, H1, I1, r, q⟩ => ⟨I1.kIn, run_fnG G hg0 hr hb (hx σ) I1 r q⟩) he hpl
theorem se_call (G : FnG X.prog X.w X.K X.mg X.base (L2.CX X.prog X.w) k f fd ps (spOf X.K X.mg np F)) (n : NP np F) (tk : Takes X Wx) (hg0 : X.A.guards = some []) (hr : Room k X.A) (hg : Gl X x) (hm : X.mg x = some (.ref f)) (hk : PySem.W.keepIn X.K (.ref f) = true) (hb : Binds X.K fd ps [])
    (ha : SA X Wx (e :: es) fs) (hdb : (x == ("__debug__" : Str)) = false := by decide) (he : starEach (e :: es) X.env = (false, eval e X.env) :: starEach es X.env := by rfl) (hpl : (backTo pos (starEach es X.env)).any (·.1) = false := by rfl) :
    SE X Wx (.Call (.Name x p) (e :: es) [] pos) (eCall F fs) :=
  PE.imp (pe_callG (E := WE Wx) G hg0 hr hg hm hk hb (fun σ => passAt tk σ) ha hdb he hpl) fun _ _ _ h => call_sp n h
theorem pe_call0G {sp : Sp} {E : St → XK} (G : FnG X.prog X.w X.K X.mg X.base (L2.CX X.prog X.w) k f fd ps sp) (hg0 : X.A.guards = some []) (hr : Room k X.A) (hg : Gl X x) (hm : X.mg x = some (.ref f)) (hk : PySem.W.keepIn X.K (.ref f) = true) (hb : Binds X.K fd ps []) (hx : ∀ σ, PassesAt (L2.CX X.prog X.w) X σ (E σ))
    (hdb : (x == ("__debug__" : Str)) = false := by decide) : PE X (.Call (.Name x p) [] [] pos) (fun σ H Q => sp [] H Q (E σ)) := by
  refine ⟨fun pins s σ H Q I h => ?_⟩
  refine wpAny_Call_Name_kw (ld_glob I hg hm ?_ hdb)
  exact PySem.W.callWith_K0 I.kIn hk (run_fnG (us := []) G hg0 hr hb (hx σ) I .nil h)
theorem se_call0 (G : FnG X.prog X.w X.K X.mg X.base (L2.CX X.prog X.w) k f fd ps (spOf X.K X.mg np F)) (n : NP np F) (tk : Takes X Wx) (hg0 : X.A.guards = some []) (hr : Room k X.A) (hg : Gl X x) (hm : X.mg x = some (.ref f)) (hk : PySem.W.keepIn X.K (.ref f) = true) (hb : Binds X.K fd ps [])
    (hdb : (x == ("__debug__" : Str)) = false := by decide) : SE X Wx (.Call (.Name x p) [] [] pos) (eCall F aNil) :=
  PE.imp (pe_call0G (E := WE Wx) G hg0 hr hg hm hk hb (fun σ => passAt tk σ) hdb) fun σ H Q ⟨env, L, al, T, c, q⟩ => by
    have q : GPost X Wx σ H al T L (RV X) (F [] L) Q := q
    have hl : 0 = np := by
      by_cases z : ([] : List Va).length = np
      · exact z
      · rw [n [] L z] at q; exact q.elim
    refine ⟨hl, [], al, T, L, c.rel, .nil, ?_⟩
    revert q
    generalize F [] L = r
    intro q1
    cases r with
    | ok w L2 => exact fun v H' al' s q => q1 v H' al' s q
    | exc c f L2 => exact fun cls d H' al' s q => q1 cls d H' al' s q
    | stuck => exact q1
end
end L2.HW
/-! SemM: methods, minus, [::-1], repr. -/
namespace L2.HW
open PySem PySem.Spec PyProof.Rows
section
variable {X : Cx} {Wx : WX}
/-! ### methods -/
def eMeth (chk : LH → Va → Bool) (g : Va → List Va → LH → Res Va) (fo : EF) (fs : En → LH → Res (List Va)) : EF := fun env L => (fo env L).bind fun w L1 => if chk L1 w then (fs env L1).bind fun ws L2 => g w ws L2 else .stuck
def OkM (X : Cx) (r : V → List V → Hp → VK → Prop) (g : Va → List Va → LH → Res Va) : Prop := ∀ (Wx : WX) (σ : St) (H : Hp) (al T : List Addr) (L : LH) (x : V) (xs : List V) (w : Va) (ws : List Va) (Q : VK), Rel X.K X.mg H al T L → RV X (mask H (al ++ T)) al x w → RVs X (mask H (al ++ T)) al xs ws →
  GPost X Wx σ H al T L (RV X) (g w ws L) Q → r x xs H Q
def OkTy (X : Cx) (T : String) (chk : LH → Va → Bool) : Prop := ∀ (H : Hp) (al U : List Addr) (L : LH) (x : V) (w : Va), Rel X.K X.mg H al U L → RV X (mask H (al ++ U)) al x w → chk L w = true → tyV X.K T x H
variable {o : Expr} {es : List Expr} {e : Expr} {fo : EF} {fs : En → LH → Res (List Va)} {name : Str} {apos cpos : Pos} {T id : String} {r : V → List V → Hp → VK → Prop} {chk : LH → Va → Bool} {g : Va → List Va → LH → Res Va}
theorem se_meth (pa : PlainAttrs T) (slot : Slot T name id) (hty : typeOf (.builtin id) = pure (.type "method_descriptor")) (hm : MtR X id r) (ok : OkM X r g) (ty : OkTy X T chk) (ho : SE X Wx o fo) (ha : SA X Wx (e :: es) fs)
    (hbase : attributeBase o name X.env (eval o X.env) = eval o X.env := by rfl)
    (hfew : ((backTo cpos (starEach (e :: es) X.env)).all (fun x => !x.1) && (backToKw cpos (keywordEach [] X.env)).all (fun x => x.1.isSome)
      && decide ((e :: es).length + ([] : List Keyword).length + (if ([] : List Keyword).isEmpty then 0 else 1) < 30)) = true := by rfl)
    (hline : (apos.endLine == cpos.line) = true := by rfl) (hs : starEach (e :: es) X.env = (false, eval e X.env) :: starEach es X.env := by rfl) (hplain : (backTo cpos (starEach es X.env)).any (·.1) = false := by rfl) :
    SE X Wx (.Call (.Attribute o name apos) (e :: es) [] cpos) (eMeth chk g fo fs) :=
  PE.imp (pe_bm pa slot hty hm ho ha hbase hfew hline hs hplain) fun σ H Q ⟨env, L, al, U, c, h⟩ => by
    refine rseq (R := RV X) c h fun v H1 w L1 al1 c1 s1 r1 h1 => ?_
    split at h1
    · rename_i hc
      refine ⟨ty H1 al1 U L1 v w c1.rel r1 hc, ?_⟩
      refine rseq (R := RVs X) c1 h1 fun vs H2 ws L2 al2 c2 s2 r2 h2 => ?_
      exact ok Wx σ H2 al2 U L2 v vs w ws Q c2.rel (s2.rp r1) r2 h2
    · exact h1.elim
theorem se_meth0 (pa : PlainAttrs T) (slot : Slot T name id) (hty : typeOf (.builtin id) = pure (.type "method_descriptor")) (hm : MtR X id r) (ok : OkM X r g) (ty : OkTy X T chk) (ho : SE X Wx o fo)
    (hbase : attributeBase o name X.env (eval o X.env) = eval o X.env := by rfl) (hline : (apos.endLine == cpos.line) = true := by rfl) :
    SE X Wx (.Call (.Attribute o name apos) [] [] cpos) (eMeth chk g fo aNil) :=
  PE.imp (pe_bm0 pa slot hty hm ho hbase hline) fun σ H Q ⟨env, L, al, U, c, h⟩ => by
    refine rseq (R := RV X) c h fun v H1 w L1 al1 c1 s1 r1 h1 => ?_
    split at h1
    · rename_i hc
      exact ⟨ty H1 al1 U L1 v w c1.rel r1 hc, ok Wx σ H1 al1 U L1 v [] w [] Q c1.rel r1 .nil h1⟩
    · exact h1.elim
def isLs : LH → Va → Bool := fun L w => match w with
  | .d (.list _) => true
  | .loc n => match L[n]? with
    | some (some (.lst _)) => true
    | _ => false
  | _ => false
theorem ty_list : OkTy X "list" isLs := by
  intro H al U L x w r q h
  unfold isLs at h
  split at h
  · obtain ⟨a, vs, rfl, sq, _⟩ := seq_ok r q (seq_list L _)
    cases q with
    | d q => cases q with | lst e1 e2 => exact .inl ⟨rfl, _, SqL.of (of_mask e1).2⟩
  · split at h
    · rename_i n ws e
      obtain ⟨a, vs, rfl, _, e3, _⟩ := loc_lst r q e
      exact .inl ⟨rfl, vs, SqL.of e3⟩
    · cases h
  · cases h
/-- a method that changes its list -/
theorem gset {σ : St} {H : Hp} {al T : List Addr} {L : LH} {n : Nat} {a : Addr} {ws us : List Va} {vs : List V} {w : Va} {v : V} {Q : VK} (r : Rel X.K X.mg H al T L) (ea : al[n]? = some a) (e : L[n]? = some (some (.lst ws)))
    (h : GPost X Wx σ H al T L (RV X) (.ok w (L.set n (some (.lst us)))) Q) (rv : RVs X (mask H (al ++ T)) al vs us) (rw_ : RV X (mask H (al ++ T)) al v w) : Q v (upd H a (.lst vs)) := by
  have m : mask (upd H a (.lst vs)) (al ++ T) = mask H (al ++ T) := mask_in (List.mem_append_left _ (List.mem_of_getElem? ea))
  exact h v _ al (Rel.write r ea e ⟨vs, upd_same, rv⟩) (by rw [m]; exact rw_)
def mAppend : Va → List Va → LH → Res Va := fun w ws L => match w, ws with
  | .loc n, [v] => match L[n]? with
    | some (some (.lst us)) => if us.length < sizeLine then .ok (.d .none) (L.set n (some (.lst (us ++ [v])))) else .stuck
    | _ => .stuck
  | _, _ => .stuck
theorem ok_append : OkM X rAppend mAppend := by
  intro Wx σ H al T L x xs w ws Q r q qs h
  unfold mAppend at h
  split at h
  · rename_i n v
    split at h
    · rename_i us e
      split at h
      · rename_i hz
        obtain ⟨a, vs, rfl, ea, ha, rr⟩ := loc_lst r q e
        obtain ⟨y, rfl, qy⟩ := rps_1 qs
        exact ⟨a, vs, y, rfl, rfl, ha, by rw [Paired.length rr]; exact hz, gset r ea e h (rps_app rr (.cons qy .nil)) (.d .non)⟩
      · exact h.elim
    · exact h.elim
  · exact h.elim
theorem se_append (ho : SE X Wx o fo) (ha : SA X Wx [e] fs) (hbase : attributeBase o "append" X.env (eval o X.env) = eval o X.env := by rfl)
    (hfew : ((backTo cpos (starEach [e] X.env)).all (fun x => !x.1) && (backToKw cpos (keywordEach [] X.env)).all (fun x => x.1.isSome)
      && decide ([e].length + ([] : List Keyword).length + (if ([] : List Keyword).isEmpty then 0 else 1) < 30)) = true := by rfl)
    (hline : (apos.endLine == cpos.line) = true := by rfl) (hs : starEach [e] X.env = (false, eval e X.env) :: starEach [] X.env := by rfl) (hplain : (backTo cpos (starEach [] X.env)).any (·.1) = false := by rfl) :
    SE X Wx (.Call (.Attribute o "append" apos) [e] [] cpos) (eMeth isLs mAppend fo fs) :=
  se_meth PySem.F.plainAttrs_list PySem.F.slot_list_append PySem.F.type_list_append mt_append ok_append ty_list ho ha hbase hfew hline hs hplain
def mInsert : Va → List Va → LH → Res Va := fun w ws L => match w, ws with
  | .loc n, [.d (.int i), v] => match L[n]? with
    | some (some (.lst us)) => if us.length < sizeLine ∧ 0 ≤ i ∧ i < 2 ^ 63 then .ok (.d .none) (L.set n (some (.lst (us.take i.toNat ++ [v] ++ us.drop i.toNat)))) else .stuck
    | _ => .stuck
  | _, _ => .stuck
theorem ok_insert : OkM X (fun x vs H Q => ∃ (l : Addr) (xs : List V) (i : Int) (y : V), x = .ref l ∧ vs = [.int i, y] ∧ H l = some (.lst xs) ∧ xs.length < sizeLine ∧ 0 ≤ i ∧ i < 2 ^ 63 ∧
    Q .non (upd H l (.lst (xs.take i.toNat ++ [y] ++ xs.drop i.toNat)))) mInsert := by
  intro Wx σ H al T L x xs w ws Q r q qs h
  unfold mInsert at h
  split at h
  · rename_i n i v
    split at h
    · rename_i us e
      split at h
      · rename_i hz
        obtain ⟨a, vs, rfl, ea, ha, rr⟩ := loc_lst r q e
        obtain ⟨z, y, rfl, qz, qy⟩ := rps_2 qs
        refine ⟨a, vs, i, y, rfl, by rw [dq_int (rp_d qz)], ha, by rw [Paired.length rr]; exact hz.1, hz.2.1, hz.2.2, gset r ea e h (rps_app (rps_app (rps_take _ rr) (.cons qy .nil)) (rps_drop _ rr)) (.d .non)⟩
      · exact h.elim
    · exact h.elim
  · exact h.elim
def mPop0 : Va → List Va → LH → Res Va := fun w ws L => match w, ws with
  | .loc n, [] => match L[n]? with
    | some (some (.lst us)) => match us[us.length - 1]? with
      | some u => .ok u (L.set n (some (.lst us.dropLast)))
      | none => .stuck
    | _ => .stuck
  | _, _ => .stuck
theorem rps_dropLast {M : Hp} {al : List Addr} {vs : List V} {ws : List Va} (h : RVs X M al vs ws) : RVs X M al vs.dropLast ws.dropLast := by
  rw [List.dropLast_eq_take, List.dropLast_eq_take, Paired.length h]
  exact rps_take _ h
theorem ok_pop0 : OkM X rPop mPop0 := by
  intro Wx σ H al T L x xs w ws Q r q qs h
  unfold mPop0 at h
  split at h
  · rename_i n
    split at h
    · rename_i us e
      split at h
      · rename_i u eu
        obtain ⟨a, vs, rfl, ea, ha, rr⟩ := loc_lst r q e
        cases qs
        obtain ⟨y, e2, q2⟩ := rps_get rr eu
        exact ⟨a, vs, y, rfl, rfl, ha, by rw [Paired.length rr]; exact e2, gset r ea e h (rps_dropLast rr) q2⟩
      · exact h.elim
    · exact h.elim
  · exact h.elim
/-! ### - e -/
def eNeg (f : EF) : EF := fun env L => (f env L).bind fun w L1 => match w with
  | .d (.int i) => .ok (.d (.int (-i))) L1
  | _ => .stuck
theorem se_neg {a : Expr} {f : EF} {pos : Pos} (h : SE X Wx a f) : SE X Wx (.UnaryOp .USub a pos) (eNeg f) :=
  PE.imp (pe_un un_neg h) fun σ H Q ⟨env, L, al, U, c, h⟩ => by
    refine rseq (R := RV X) c h fun v H1 w L1 al1 c1 s1 r1 h1 => ?_
    split at h1
    · rename_i i
      exact ⟨i, dq_int (rp_d r1), gok c1.rel h1 (.d (.int _))⟩
    · exact h1.elim
/-! ### repr -/
mutual
theorem dq_reads {pins : List (Addr × Obj)} {σ : St} {H : Hp} {s : Shared} (I : Inv X pins σ H s) : ∀ {v : V} {x : PyData} {u : Value}, Dq H v x → RelV v u → ∃ as, Reads s.heap u x as
  | _, _, _, .non, r => by cases r; exact ⟨_, .none⟩
  | _, _, _, .bl b, r => by cases r; exact ⟨_, .bool b⟩
  | _, _, _, .int i, r => by obtain ⟨t, rfl⟩ := r; exact ⟨_, .int i t⟩
  | _, _, _, .str x, r => by obtain ⟨t, rfl⟩ := r; exact ⟨_, .str x t⟩
  | _, _, _, .lst e q, r => by
    cases r
    obtain ⟨z, its, n, rv, hl, e2⟩ := I.lstM e
    obtain ⟨as, ra⟩ := dqs_reads I q rv
    exact ⟨_, .list e2 rfl rfl (by simpa using ra)⟩
  | _, _, _, .tup e q, r => by
    cases r
    obtain ⟨_, its, rv, o, e2, c, n, d⟩ := I.hok _ _ e
    obtain ⟨as, ra⟩ := dqs_reads I q rv
    exact ⟨_, .tuple e2 c d (by simpa using ra)⟩
theorem dqs_reads {pins : List (Addr × Obj)} {σ : St} {H : Hp} {s : Shared} (I : Inv X pins σ H s) : ∀ {v : List V} {x : List PyData} {u : List Value}, DqAll H v x → Vals v u → ∃ as, ReadsAll s.heap u x as
  | _, _, _, .nil, .nil => ⟨_, .nil⟩
  | _, _, _, .cons a b, .cons c d => by
    obtain ⟨_, h1⟩ := dq_reads I a c
    obtain ⟨_, h2⟩ := dqs_reads I b d
    exact ⟨_, .cons h1 h2⟩
end
mutual
theorem dq_noDict {H : Hp} : ∀ {v : V} {x : PyData}, Dq H v x → x.hasDict = false
  | _, _, .non => by simp [PyData.hasDict]
  | _, _, .bl b => by simp [PyData.hasDict]
  | _, _, .int i => by simp [PyData.hasDict]
  | _, _, .str x => by simp [PyData.hasDict]
  | _, _, .lst e q => by simp [PyData.hasDict, dqs_noDict q]
  | _, _, .tup e q => by simp [PyData.hasDict, dqs_noDict q]
theorem dqs_noDict {H : Hp} : ∀ {v : List V} {x : List PyData}, DqAll H v x → PyData.hasDictAll x = false
  | _, _, .nil => by simp [PyData.hasDictAll]
  | _, _, .cons a b => by simp [PyData.hasDictAll, dq_noDict a, dqs_noDict b]
end
/-- what repr can show -/
def okShow (x : PyData) : Prop := x.showable = true ∧ x.depth < 180 ∧ x.shown.length ≤ sizeLine
def rRepr : List V → Hp → VK → Prop := fun xs H Q => ∃ v x, xs = [v] ∧ Dq H v x ∧ okShow x ∧ Q (.str x.shown) H
theorem call_reprD (hg : X.A.guards = some []) (hu : X.A.units + 200 < cLine) : CallR X (.builtin "repr") rRepr := by
  intro pins s σ H xs us Q I r h
  obtain ⟨v, x, rfl, dq, ⟨h1, h2, h3⟩, q⟩ := h
  obtain ⟨u, rfl, ru⟩ := Vals.one r
  cases dq with
  | non => cases ru; exact PySem.P.repr_of_none ⟨.str _, H, I.tok _, ⟨_, rfl⟩, q⟩
  | bl b => cases ru; exact PySem.P.repr_of_bool ⟨.str _, H, I.tok _, ⟨_, rfl⟩, q⟩
  | int i => obtain ⟨t, rfl⟩ := ru; exact PySem.P.repr_of_int (by simpa [PyData.showable] using h1) ⟨.str _, H, I.tok _, ⟨_, rfl⟩, q⟩
  | str z => obtain ⟨t, rfl⟩ := ru; exact PySem.P.repr_of_str ⟨.str _, H, I.tok _, ⟨_, rfl⟩, q⟩ (by simpa [PyData.shown] using h3)
  | lst e d =>
    cases ru
    obtain ⟨as, ra⟩ := dq_reads I (.lst e d) rfl
    exact PySem.repr_of_reads' ra h1 (PyData.noDict_hsm (dq_noDict (Dq.lst e d))) hg (by omega) (fun _ _ e => e) (fun h' u tk k => ⟨.str _, H, I.kept k, ⟨_, rfl⟩, q⟩) h3
  | tup e d =>
    cases ru
    obtain ⟨as, ra⟩ := dq_reads I (.tup e d) rfl
    exact PySem.repr_of_reads' ra h1 (PyData.noDict_hsm (dq_noDict (Dq.tup e d))) hg (by omega) (fun _ _ e => e) (fun h' u tk k => ⟨.str _, H, I.kept k, ⟨_, rfl⟩, q⟩) h3
open Classical in
noncomputable def cRepr : List Va → LH → Res Va := fun ws L => match ws with
  | [w] => match w.data L with
    | some x => if okShow x then .ok (.d (.str x.shown)) L else .stuck
    | none => .stuck
  | _ => .stuck
theorem ok_repr : OkC X rRepr cRepr := by
  intro Wx σ H al T L xs ws Q r q h
  unfold cRepr at h
  split at h
  · rename_i w
    obtain ⟨v, rfl, q1⟩ := rps_1 q
    split at h
    · rename_i x e
      split at h
      · rename_i hs
        exact ⟨v, x, rfl, data_ok r q1 e, hs, gok r h (.d (.str _))⟩
      · exact h.elim
    · exact h.elim
  · exact h.elim
end
end L2.HW
/-! SemN: t[::-1]. -/
namespace HT
open PySem PySem.Spec PyProof.Rows
section
variable {prog : Program} {w : World} {A : Around} {E : Value → Shared → Prop} {s : Shared}
theorem revPlaces (n : Nat) : Builtin.Slice.slicePlaces ((n : Int) - 1) (-1) (-1) = n := by
  unfold Builtin.Slice.slicePlaces
  rw [if_neg (by decide)]
  by_cases h : (n : Int) - 1 > -1
  · rw [if_pos h, show (- -1 : Int) = 1 by decide, Int.ediv_one]; omega
  · rw [if_neg h]; omega
theorem revApplied {sl : Addr} {vs : Value} {n : Nat} {Q : Int × Int × Nat → Shared → Prop} (hs : s.heap.IsSliceOf sl .none .none vs) (ps : IsPart vs (some (-1))) (h : Q ((n : Int) - 1, -1, n) s) :
    wpAny (model prog w) A (Builtin.Slice.sliceApplied (.ref sl) (pure (n : Int))) Q E s := by
  obtain ⟨os, at_, cs, ds⟩ := id hs
  unfold Builtin.Slice.sliceApplied Builtin.Slice.sliceFields
  refine wpAny_bind (wpAny_bind (wpAny_field at_ ds (x := .none) rfl (wpAny_bind (wpAny_field at_ ds (x := .none) rfl (wpAny_bind (wpAny_field at_ ds (x := vs) rfl (wpAny_pure ?_)))))))
  refine wpAny_bind (slicePart_ ps ?_)
  show wpAny _ _ (if ((-1 : Int) == 0) = true then _ else _) _ _ s
  rw [if_neg (by decide)]
  refine wpAny_bind (slicePart_none (wpAny_bind (slicePart_none (wpAny_bind (wpAny_pure ?_)))))
  have e : Builtin.Slice.sliceAdjust none none (-1) (n : Int) = ((n : Int) - 1, -1) := rfl
  show wpAny _ _ (match Builtin.Slice.sliceAdjust none none (-1) (n : Int) with | (lo, hi) => pure (lo, (-1 : Int), Builtin.Slice.slicePlaces lo hi (-1))) _ _ s
  rw [e]
  show wpAny _ _ (pure ((n : Int) - 1, (-1 : Int), Builtin.Slice.slicePlaces ((n : Int) - 1) (-1) (-1))) _ _ s
  rw [revPlaces]
  exact wpAny_pure h
theorem revPick (xs : Array Value) : ((List.range xs.size).filterMap fun (m : Nat) => xs[((xs.size : Int) - 1 + (m : Int) * (-1)).toNat]?).toArray = xs.toList.reverse.toArray := by
  congr 1
  have go : ∀ (l : List Value) (f : Nat → Option Value), (∀ m, m < l.length → f m = l[m]?) → (List.range l.length).filterMap f = l := by
    intro l
    induction l with
    | nil => intro f _; rfl
    | cons a l ih =>
      intro f hf
      rw [List.length_cons, List.range_succ_eq_map, List.filterMap_cons, hf 0 (by simp), List.filterMap_map]
      show a :: _ = a :: l
      congr 1
      exact ih _ fun m hm => by show f (m + 1) = _; rw [hf (m + 1) (by simp; omega)]; rfl
  have := go xs.toList.reverse (fun (m : Nat) => xs[((xs.size : Int) - 1 + (m : Int) * (-1)).toNat]?) fun m hm => by
    rw [List.length_reverse] at hm
    have e : ((xs.size : Int) - 1 + (m : Int) * (-1)).toNat = xs.size - 1 - m := by have := hm; rw [Array.length_toList] at this; omega
    rw [List.getElem?_reverse hm]
    simp only [e]
    simp
  rwa [List.length_reverse, Array.length_toList] at this
theorem getItem_tuple_rev {t sl : Addr} {items : Array Value} {vs : Value} {Q : Value → Shared → Prop} (ht : IsTup s.heap t items) (hs : s.heap.IsSliceOf sl .none .none vs) (ps : IsPart vs (some (-1)))
    (h : Q (.ref s.heap.objs.size) { s with heap := s.heap.push { cls := .type "tuple", data := .seq items.toList.reverse.toArray } }) (hz : items.size ≤ sizeLine) :
    wpAny (model prog w) A (getItem (.ref t) (.ref sl)) Q E s := by
  have fits : sizeOk (.seq items.toList.reverse.toArray) := by
    show items.toList.reverse.toArray.size ≤ sizeLine
    rw [List.size_toArray, List.length_reverse, Array.length_toList]; exact hz
  obtain ⟨os, at_, cs, ds⟩ := id hs
  have isS : s.TypeIs (.ref sl) "slice" := ⟨os, at_, cs⟩
  unfold getItem
  try with_reducible refine wpAny_holding ?_
  first | refine wpAny_bind (wpAny_pure ?_) | skip
  refine wpAny_bind (wpAny_sequenceKey ht.typeIs (by decide) ?_)
  refine wpAny_bind (wpAny_callSpecial?_slot (name := Str.ofString "__getitem__") ht.typeIs PyProof.Rows.slot_tuple_getitem (wpAny_call_entry PyProof.Rows.slot_tuple_getitem ht.typeIs entry_tuple_getitem ?_ (args_tuple_getitem _ _)))
  show wpAny _ _ (Builtin.Tuple.tupleItemsOf (.ref t) >>= _) _ _ s
  refine wpAny_bind (tupleItemsOf_ ht (wpAny_bind (wpAny_typeOf isS ?_)))
  rw [if_pos (by decide)]
  refine wpAny_bind (revApplied hs ps ?_)
  have no : ¬ (((items.size : Int) - 1 == 0 && (-1 : Int) == 1 && items.size == items.size) = true) := by simp
  show wpAny _ _ (if ((items.size : Int) - 1 == 0 && (-1 : Int) == 1 && items.size == items.size) = true then _ else _) _ _ s
  rw [if_neg no, revPick]
  first
    | exact wpAny_bind (m := Builtin.Tuple.tupleExact _) (wpAny_newObj_type (wpAny_pure ⟨_, rfl, wpAny_pure h⟩) fits)
    | exact wpAny_bind (wpAny_bind (m := Builtin.Tuple.tupleExact _) (wpAny_newObj_type (wpAny_pure ⟨_, rfl, wpAny_pure h⟩) fits))
    | exact wpAny_bind (m := Builtin.Tuple.tupleExact _) (wpAny_newObj_type (wpAny_bind (wpAny_pure (wpAny_pure ⟨_, rfl, wpAny_pure h⟩))) fits)
end
end HT
namespace L2.HW
open PySem PySem.Spec PyProof.Rows
section
variable {X : Cx} {Wx : WX}
def tRevT (K : PySem.W.Frag) (te : TE) : TE := fun σ H Q => te σ H fun x H1 => ∃ a xs, x = .ref a ∧ ((SqL K H1 a xs ∧ ∀ p, H1 p = none → Q (.ref p) (upd H1 p (.lst xs.reverse))) ∨ (SqT K H1 a xs ∧ ∀ p, H1 p = none → Q (.ref p) (upd H1 p (.tup xs.reverse))))
theorem pe_rev {e : Expr} {te : TE} {k : Nat} {p1 p2 p3 pos : Pos} (he : PE X e te) : PE X (.Subscript e (.Slice none none (some (.UnaryOp .USub (.Constant (.int 1) k p1) p2)) p3) pos) (tRevT X.K te) := by
  refine ⟨fun pins s σ H Q I h => ?_⟩
  refine Subscript_ (thn (he.run pins s σ H _ I h) fun v s1 ⟨x, H1, I1, r1, q1⟩ => ?_)
  obtain ⟨a, xs, ex, hx⟩ := q1
  subst ex
  cases r1
  have step : PO X (some (.UnaryOp .USub (.Constant (.int 1) k p1) p2)) (tPart (tUn (rU fun i => .int (-i)) (tC (.int 1)))) := po_some (pe_un un_neg pe_int)
  refine wpAny_Slice (thn (po_none.run pins s1 σ H1 (fun o H2 => o = none ∧ H2 = H1) I1 ⟨rfl, rfl⟩) fun vl s2 ⟨l, H2, I2, pl, el, e2⟩ => ?_)
  subst el e2
  refine thn (po_none.run pins s2 σ H2 (fun o H3 => o = none ∧ H3 = H2) I2 ⟨rfl, rfl⟩) fun vu s3 ⟨u, H3, I3, pu, eu, e3⟩ => ?_
  subst eu e3
  refine thn (step.run pins s3 σ H3 (fun o H4 => o = some (-1) ∧ H4 = H3) I3 ⟨1, rfl, -1, rfl, rfl, rfl⟩) fun vs s4 ⟨o, H4, I4, ps, eo, e4⟩ => ?_
  subst eo e4
  cases pl
  cases pu
  have I5 : Inv X pins σ H4 { s4 with heap := s4.heap.push { cls := .type "slice", data := .fields #[.none, .none, vs] } } := I4.kept (t' := s4.toks) fun b ob q => Heap.get?_push_of_some _ q
  show wpAny (model X.prog X.w) X.A (subscriptTail e (.Slice none none (some (.UnaryOp .USub (.Constant (.int 1) k p1) p2)) p3) (.ref a) (.ref s4.heap.objs.size)) (EP X pins σ Q) X.xe { s4 with heap := s4.heap.push { cls := .type "slice", data := .fields #[.none, .none, vs] } }
  have new := I5.hok.fresh (Nat.le_refl _)
  rcases hx with ⟨hx, q⟩ | ⟨hx, q⟩
  · obtain ⟨its, r, ht, hz⟩ := I5.list hx
    have hl := r.length
    refine tail_any (ops := [.ref a, .ref s4.heap.objs.size]) ht.isList.typeIs (PySem.slot_list_getitem.lookup) ?_ (by with_unfolding_all rfl)
    refine wpAny_getItem_list_slice ht.isList (Heap.IsSliceOf.new _ .none .none vs) .none .none ps (by decide) ?_ (by rw [List.size_toArray]; omega)
    rw [PySem.W.krv_pick]
    exact ⟨.ref _, _, I5.laid (t' := s4.toks) (o := .lst xs.reverse) (fun b ob q => Heap.get?_push_of_some _ q) (Nat.le_refl _) ⟨by rw [List.length_reverse]; exact hz, _, 0, r.reverse, Heap.get?_push_size _ rfl⟩, rfl, q _ new⟩
  · obtain ⟨its, r, ht, hz⟩ := I5.tuple hx
    have hl := r.length
    refine tail_any (ops := [.ref a, .ref s4.heap.objs.size]) ht.typeIs (PyProof.Rows.slot_tuple_getitem.lookup) ?_ (by with_unfolding_all rfl)
    refine HT.getItem_tuple_rev ht (Heap.IsSliceOf.new _ .none .none vs) ps ?_ (by rw [List.size_toArray]; omega)
    exact ⟨.ref _, _, I5.laid (t' := s4.toks) (o := .tup xs.reverse) (fun b ob q => Heap.get?_push_of_some _ q) (Nat.le_refl _) ⟨by rw [List.length_reverse]; exact hz, _, r.reverse, IsTup.new _ _⟩, rfl, q _ new⟩
def eRev (f : EF) : EF := fun env L => (f env L).bind fun w L1 => match w.data L1 with
  | some (.list xs) => .ok (.d (.list xs.reverse)) L1
  | some (.tuple xs) => .ok (.d (.tuple xs.reverse)) L1
  | _ => .stuck
theorem data_tuple {L : LH} {w : Va} {xs : List PyData} (e : w.data L = some (.tuple xs)) : w = .d (.tuple xs) := by
  cases w with
  | d x => cases e; rfl
  | loc n =>
    simp only [Va.data] at e
    split at e
    · rename_i ws _
      cases h : datas ws with
      | none => rw [h] at e; cases e
      | some ys => rw [h] at e; cases e
    · cases e
  | tup _ => cases e
  | dct _ => cases e
  | exc _ _ => cases e
  | scr _ => cases e
theorem items_data {L : LH} {w : Va} {xs : List PyData} (e : w.data L = some (.list xs)) : w.items L = some (xs.map Va.d) := by
  cases w with
  | d x => cases e; rfl
  | loc n =>
    simp only [Va.data] at e
    split at e
    · rename_i ws e1
      cases h : datas ws with
      | none => rw [h] at e; cases e
      | some ys => rw [h] at e; cases e; rw [datas_eq h] at e1; simp [Va.items, e1]
    · cases e
  | tup _ => cases e
  | dct _ => cases e
  | exc _ _ => cases e
  | scr _ => cases e
theorem dqs_rev {M : Hp} : ∀ {vs : List V} {xs : List PyData}, DqAll M vs xs → DqAll M vs.reverse xs.reverse
  | _, _, .nil => .nil
  | _, _, .cons a b => by rw [List.reverse_cons, List.reverse_cons]; exact dq_app (dqs_rev b) (.cons a .nil)
theorem se_rev {e : Expr} {f : EF} {k : Nat} {p1 p2 p3 pos : Pos} (he : SE X Wx e f) : SE X Wx (.Subscript e (.Slice none none (some (.UnaryOp .USub (.Constant (.int 1) k p1) p2)) p3) pos) (eRev f) :=
  PE.imp (pe_rev he) fun σ H Q ⟨env, L, al, T, c, h⟩ => by
    refine rseq (R := RV X) c h fun v H1 w L1 al1 c1 s1 r1 h1 => ?_
    split at h1
    · rename_i xs e
      have dq := data_ok c1.rel r1 e
      cases dq with
      | @lst a vs _ e1 d1 =>
        have : w.items L1 = some (xs.map Va.d) := items_data e
        obtain ⟨a', vs', e2, f1, d2⟩ := items_ok c1.rel r1 this
        refine ⟨a', vs', e2, .inl ⟨SqL.of f1, gnew c1.rel h1 fun p hp e m e' => .d (.lst e' (DqAll.le m (dqs_rev (dq_all d2))))⟩⟩
    · rename_i xs e
      have ew : w = .d (.tuple xs) := data_tuple e
      subst ew
      obtain ⟨a, vs, rfl, e1, d1⟩ := dq_tup (rp_d r1)
      exact ⟨a, vs, rfl, .inr ⟨SqT.of (of_mask e1).2, gnew c1.rel h1 fun p hp e m e' => .d (.tup e' (DqAll.le m (dqs_rev d1)))⟩⟩
    · exact h1.elim
end
end L2.HW
/-! SemZ: a law's end. -/
namespace L2.HW
open PySem PySem.Spec PyProof.Rows
theorem cx_none {P : Program} {w : World} {H : Hp} {s : Shared} {e : Value} {s' : Shared} (h : L2.CX P w [] H s (fun _ _ _ => False) e s') : False := by
  obtain ⟨_, _, _, _, _, _, _, _, _, _, _, _, z⟩ := h
  exact z
/-- the law's def at the heap behind the top, the script at a -/
theorem law_runs {P : Program} {w : World} {K : PySem.W.Frag} {mg mb : Str → Option Value} {k : Nat} {fa a : Addr} {x : Str} {sp : Sp} {s : Shared} {vs : List Value} {ns : List Int}
    (kin : K.In s.heap) (gl : s.heap.Ns mainGlobals mg) (bl : s.heap.Ns builtinsNs mb) (bb : ∀ x : Str, x ≠ "__name__" → mb x = bootBuiltins x) (nl : s.heap.NoLimit) (ng : s.gens = #[])
    (at_ : s.heap.get? a = some { cls := .type "list", data := .seq vs.toArray }) (hi : IntsAre vs ns) (hn : ns.length ≤ sizeLine) (hr : Room k callerA)
    (F : ∀ base : Heap, K.In base → base.Ns mainGlobals mg → ∃ fd, Binds K fd [x] [] ∧ FnG P w K mg base (L2.CX P w) k fa fd [x] sp)
    (hsp : ∀ H : Hp, SqL K H a (ns.map V.int) → sp [.ref a] H (fun v _ => v = .bl true) fun _ _ _ => False) :
    codeAny (model P w) callerA (.call (.ref fa) ⟨[.ref a], []⟩) (fun r s2 => r = .ok (.ret (.bool true)) ∧ OldK s.heap s2.heap ∧ s2.os = s.os ∧ AllBare s2.gens) s := by
  have rv := vals_ints hi
  have hlen := hi.length
  have core : ∀ H : Hp, (∀ b, H b = none ∨ (b = a ∧ K.lookup a = none ∧ H b = some (.frz { cls := .type "list", data := .seq vs.toArray } (.lst (ns.map V.int))))) → SqL K H a (ns.map V.int) → HOk P w H s.heap →
      codeAny (model P w) callerA (.call (.ref fa) ⟨[.ref a], []⟩) (fun r s2 => r = .ok (.ret (.bool true)) ∧ OldK s.heap s2.heap ∧ s2.os = s.os ∧ AllBare s2.gens) s := by
    intro H only sq ok
    have nod : ∀ (b : Addr) (o : Obj), s.heap.get? b = some o → (∀ (ys : Array Value) (m : Nat), o.data ≠ .seq ys m) → H b = none := by
      intro b o e d
      rcases only b with z | ⟨z, _, _⟩
      · exact z
      · subst z
        rw [at_] at e
        cases e
        exact absurd rfl (d _ _)
    have keepNs : ∀ {b : Addr} {m : Str → Option Value}, s.heap.Ns b m → (hidT s.heap H).Ns b m := by
      rintro b m ⟨o, es, ep, e, d, r⟩
      exact ⟨o, es, ep, hidT_get e (nod b o e fun ys m z => by rw [d] at z; cases z), d, r⟩
    have kin2 : K.In (hidT s.heap H) := by
      intro b o e
      refine hidT_get (kin b o e) ?_
      rcases only b with z | ⟨z, z2, _⟩
      · exact z
      · rw [z, z2] at e; cases e
    obtain ⟨mc, l1, l2⟩ := nl
    have md : Mod K mg (hidT s.heap H) := ⟨kin2, keepNs gl, ⟨mb, keepNs bl, bb⟩, ⟨mc, keepNs l1, l2⟩⟩
    have en : Env0 P w K mg (hidT s.heap H) callerA [] s H :=
      { frames := rfl, mod := md, bs := fun b o e => of_hidT e, bsz := Nat.le_of_eq (hidT_size _ _), funs := trivial, frf := (fun b z => absurd (show b ∈ ([] : List Addr) from z) (by simp)), hok := ok, bare := .of_eq ng }
    obtain ⟨fd, bt, fg⟩ := F _ kin2 (keepNs gl)
    have run := fg.go callerA [] s H ⟨[.ref a], []⟩ [.ref a] [.ref a] _ _ rfl hr en (bt s [.ref a] kin rfl) (.cons rfl .nil) (hsp H sq)
    refine codeAny_mono run ?_
    intro r s2 z
    match r, z with
    | .error e, z => exact (cx_none z).elim
    | .ok .next, z => exact z.elim
    | .ok .brk, z => exact z.elim
    | .ok .cont, z => exact z.elim
    | .ok (.ret u), ⟨v, H2, os, bare, un, ok2, rl, q⟩ =>
      have q : v = .bl true := q
      subst q
      have eu : u = Value.bool true := rl
      subst eu
      refine ⟨rfl, OldK.of_keep ?_, os, bare⟩
      intro b o e
      rcases only b with z | ⟨_, _, z⟩
      · exact un.keep b o e z (fun y => absurd (show b ∈ ([] : List Addr) from y) (by simp)) (by simp)
      · have g1 := (ok b _ z).1
        have g2 := (ok2 b _ (un.frzs b _ _ z)).1
        rw [e] at g1
        cases g1
        exact g2
  by_cases hk : K.lookup a = none
  · refine core (fun b => if b = a then some (.frz { cls := .type "list", data := .seq vs.toArray } (.lst (ns.map V.int))) else none) (fun b => ?_) (.inl (.inr ⟨_, if_pos rfl⟩)) ?_
    · by_cases hb : b = a
      · exact .inr ⟨hb, hk, if_pos hb⟩
      · exact .inl (if_neg hb)
    · intro b u z
      by_cases hb : b = a
      · have z := (if_pos hb).symm.trans z
        cases z
        rw [hb]
        exact ⟨at_, by simpa using hn, vs, _, rv, at_⟩
      · have z := (if_neg hb).symm.trans z
        cases z
  · obtain ⟨o, hk⟩ : ∃ o, K.lookup a = some o := by
      cases e : K.lookup a with
      | none => exact absurd e hk
      | some o => exact ⟨o, rfl⟩
    have e := kin a o hk
    rw [at_] at e
    cases e
    exact core (fun _ => none) (fun _ => .inl rfl) (.inr ⟨_, vs.toArray, _, hk, rfl, rfl, rfl, by simpa [hlen] using hn, by simpa using rv⟩) fun b u z => nomatch (show (none : Option HO) = some u from z)
/-- a law by its function -/
theorem walk_hw {l : PySem.W.OpenLaw} {n k : Nat} {q : Program} {loose : List Str} {XP : (Str → Option Value) → Heap → Prop} {YP : World → Heap → Prop} {d : DefRec} {x : Str} {Fl : Fn}
    (hn : l.most = some n) (hn2 : n ≤ sizeLine) (hdf : d.params.defaults = []) (hr : Room k callerA) (law : ∀ ns : List Int, ns.length ≤ n → ∃ L, Fl [.scr ns] [] = .ok (.d (.bool true)) L)
    (F : ∀ (w : World) (mg : Str → Option Value) (fa : Addr) (h : Heap), YP w h → h.Ns mainGlobals mg → mg d.name = some (.ref fa) →
      ∃ (K : PySem.W.Frag), K.In h ∧ ∀ base : Heap, K.In base → base.Ns mainGlobals mg → ∃ fd, Binds K fd [x] [] ∧ FnG l.prog w K mg base (L2.CX l.prog w) k fa fd [x] (spOf K mg 1 Fl)) :
    PySem.W.WalkO q loose XP YP l.row.toRowW d [] (fun f vs => PySem.call f vs) := by
  refine Att.attach_call hn hdf fun w s₀ s₁ mg mb fa o pm cd doc a vs ns G Y ho hd hcd hmg hobj hints hlen hg => ?_
  obtain ⟨K, kin, hF⟩ := F w mg fa _ Y G.T.g hmg
  refine law_runs kin G.T.g G.T.b G.T.builtins G.T.nolimit hg hobj hints (Nat.le_trans hlen hn2) hr hF fun H sq => ?_
  obtain ⟨L, e⟩ := law ns hlen
  refine ⟨rfl, [.scr ns], [], [], [], ⟨rfl, .nil, (fun _ z => nomatch z), (fun _ z => Or.elim z (fun z => nomatch z) (fun z => nomatch z)), (fun n o z => by simp at z)⟩, .cons (.scr (SqL.le (fun b o z => ?_) sq)) .nil, ?_⟩
  · exact mask_of (by simp) z
  · rw [e]
    intro v H' al' s r
    cases r with
    | d r => cases r; rfl
end L2.HW
/-! SemW: the rules as a generator writes them. -/
namespace L2.HW
open PySem PySem.Spec PyProof.Rows
/-- what a frame (or a block in it) is known by -/
structure Ctx (X : Cx) (Wx : WX) (k : Nat) : Prop where
  gd : X.A.guards = some []
  rm : Room k X.A
  tk : Takes X Wx
  cm : X.calm = true
  nd : X.N.Nodup
structure CtxF (X : Cx) (Wx : WX) (k : Nat) : Prop extends Ctx X Wx k where
  pa : PassesOwn (model X.prog X.w) X.A X.env X.xe
theorem takesFX {X : Cx} : Takes X FX := fun u s' ⟨_, _, _, _, _, _, _, _, _, _, _, _, _, _, _, _, z⟩ => z.elim
section
variable {X : Cx} {Wx : WX} {k : Nat}
theorem Ctx.fx (c : Ctx X Wx k) : Ctx X FX k := ⟨c.gd, c.rm, takesFX, c.cm, c.nd⟩
theorem Ctx.bk (c : Ctx X Wx k) (s : Shared) (H : Hp) (sc : Scope) (e : Env) (fp : List Addr) : Ctx (X.blk s H sc e fp) FX k := ⟨c.gd, c.rm, takesFX, c.cm, c.nd⟩
theorem Ctx.u0 (c : Ctx X Wx k) : X.A.units < cLine := by have := c.rm.un; omega
theorem Ctx.u1 (c : Ctx X Wx k) : X.A.units + 1 < cLine := by have := c.rm.un; omega
theorem Ctx.u64 (c : Ctx X Wx k) : X.A.units + 64 < cLine := by have := c.rm.un; omega
theorem Ctx.u65 (c : Ctx X Wx k) : X.A.units + 65 < cLine := by have := c.rm.un; omega
theorem Ctx.u200 (c : Ctx X Wx k) : X.A.units + 200 < cLine := by have := c.rm.un; omega
end
/-! ### defs -/
/-- a def of the text stands behind the top -/
def Def (K : PySem.W.Frag) (mg : Str → Option Value) (x : Str) (st : Stmt) : Prop := ∃ f fd, mg x = some (.ref f) ∧ FunD K x x (defArgs st) (defBody st) (defScope st) [] [] f fd
/-- .. and does what F says -/
def Has (P : Program) (w : World) (K : PySem.W.Frag) (mg : Str → Option Value) (base : Heap) (x : Str) (ps : List Str) (k : Nat) (F : Fn) : Prop :=
  ∃ f fd, mg x = some (.ref f) ∧ PySem.W.keepIn K (.ref f) = true ∧ Binds K fd ps [] ∧ NP ps.length F ∧ FnG P w K mg base (L2.CX P w) k f fd ps (spOf K mg ps.length F)
def BindE (x : Str) (st : Stmt) (ps : List Str) : Prop := ∀ (kV doc pm : Value) (an : Option Addr) (cdv ct : Value) (us : List Value), us.length = ps.length →
  bindArgs (PySem.W.fnOf x x (defArgs st) (defBody st) (defScope st) .none kV doc pm an cdv ct) ⟨us, []⟩ = pure (ps.zip us)
section
variable {P : Program} {w : World} {K : PySem.W.Frag} {mg : Str → Option Value} {base : Heap} {x : Str} {st : Stmt} {ps N : List Str} {k nl : Nat}
theorem has_no (D : Def K mg x st) (hb : BindE x st ps) : Has P w K mg base x ps k noF := by
  obtain ⟨f, fd, h, F⟩ := D
  exact ⟨f, fd, h, F.kp, fun s us _ hl => by rw [List.append_nil] at hl ⊢; exact FunD.bindsA F hb s us hl, np_no, fn_no⟩
theorem has_of {bf : SFn} (D : Def K mg x st) (hb : BindE x st ps) (S : FnScope N ps (defScope st)) (hnl : N.length = nl) (hle : ps.length ≤ nl)
    (h : ∀ (f : Addr) (cdv : Value) (A : Around) (outer : List Env) (s : Shared) (H : Hp) (E : XK), CtxF (cxOf (L2.CX P w) P w K mg base N x (defScope st) f cdv A outer s H E) (WxE E) k →
      SB (cxOf (L2.CX P w) P w K mg base N x (defScope st) f cdv A outer s H E) (WxE E) (defBody st) bf) : Has P w K mg base x ps (k + 1) (mkFn ps.length nl bf) := by
  obtain ⟨f, fd, hm, F⟩ := D
  refine ⟨f, fd, hm, F.kp, fun s us _ hl => by rw [List.append_nil] at hl ⊢; exact FunD.bindsA F hb s us hl, np_mk, ?_⟩
  refine fn_body F S rfl hnl hle fun cdv A outer s H E hg hr => h f cdv A outer s H E ⟨⟨hg, hr, takes_of rfl rfl rfl rfl, rfl, S.nd⟩, passes_of rfl⟩
/-- the law's def is the function that the head tells of -/
theorem law_end {F : Fn} {fa : Addr} {h : Heap} {y : Str} (H : ∀ base : Heap, Has P w K mg base x [y] k F) (hm : mg x = some (.ref fa)) (hK : K.In h) :
    ∃ (K : PySem.W.Frag), K.In h ∧ ∀ base : Heap, K.In base → base.Ns mainGlobals mg → ∃ fd, Binds K fd [y] [] ∧ FnG P w K mg base (L2.CX P w) k fa fd [y] (spOf K mg 1 F) := by
  refine ⟨K, hK, fun base _ _ => ?_⟩
  obtain ⟨f, fd, h1, _, h3, _, h5⟩ := H base
  rw [hm] at h1
  cases h1
  exact ⟨fd, h3, h5⟩
theorem Has.more {F : Fn} {j : Nat} (h : Has P w K mg base x ps k F) (hj : k ≤ j) : Has P w K mg base x ps j F := by
  obtain ⟨f, fd, h1, h2, h3, h4, h5⟩ := h
  exact ⟨f, fd, h1, h2, h3, h4, h5.more hj⟩
end
section
variable {X : Cx} {Wx : WX} {k j : Nat} {ps : List Str} {F : Fn} {x : Str} {p pos : Pos} {e : Expr} {es : List Expr} {fs : En → LH → Res (List Va)}
theorem w_call (c : Ctx X Wx k) (h : Has X.prog X.w X.K X.mg X.base x ps j F) (ha : SA X Wx (e :: es) fs) (hj : j ≤ k := by decide) (hg : Gl X x := by rfl) (hdb : (x == ("__debug__" : Str)) = false := by decide)
    (he : starEach (e :: es) X.env = (false, eval e X.env) :: starEach es X.env := by rfl) (hpl : (backTo pos (starEach es X.env)).any (·.1) = false := by rfl) : SE X Wx (.Call (.Name x p) (e :: es) [] pos) (eCall F fs) := by
  obtain ⟨f, fd, h1, h2, h3, h4, h5⟩ := h
  exact se_call h5 h4 c.tk c.gd (c.rm.mono hj) hg h1 h2 h3 ha hdb he hpl
theorem w_call0 (c : Ctx X Wx k) (h : Has X.prog X.w X.K X.mg X.base x ps j F) (hj : j ≤ k := by decide) (hg : Gl X x := by rfl) (hdb : (x == ("__debug__" : Str)) = false := by decide) : SE X Wx (.Call (.Name x p) [] [] pos) (eCall F aNil) := by
  obtain ⟨f, fd, h1, h2, h3, h4, h5⟩ := h
  exact se_call0 h5 h4 c.tk c.gd (c.rm.mono hj) hg h1 h2 h3 hdb
/-! ### names, constants, operators -/
variable {a b : Expr} {fa fb : EF}
theorem w_v (i : Nat) (hN : X.N[i]? = some x := by rfl) (hv : Vis X.env.scope x := by first | exact Or.inl rfl | exact Or.inr (Or.inl rfl) | exact Or.inr (Or.inr rfl)) (hd : (x == ("__debug__" : Str)) = false := by decide) (hcd : (x == ("__classdict__" : Str)) = false := by decide) :
    SE X Wx (.Name x pos) (eVar i) := se_var hN hv hd hcd
theorem w_add (ha : SE X Wx a fa) (hb : SE X Wx b fb) : SE X Wx (.BinOp a .Add b pos) (eOp opAdd fa fb) := se_op or_add ok_add ha hb
theorem w_sub (ha : SE X Wx a fa) (hb : SE X Wx b fb) : SE X Wx (.BinOp a .Sub b pos) (eOp opSub fa fb) := se_op op_sub ok_sub ha hb
theorem w_mul (ha : SE X Wx a fa) (hb : SE X Wx b fb) : SE X Wx (.BinOp a .Mult b pos) (eOp opMul fa fb) := se_op or_mul ok_mul ha hb
theorem w_div (ha : SE X Wx a fa) (hb : SE X Wx b fb) : SE X Wx (.BinOp a .FloorDiv b pos) (eOp opDiv fa fb) := se_op op_fdivW ok_div ha hb
theorem w_mod (ha : SE X Wx a fa) (hb : SE X Wx b fb) : SE X Wx (.BinOp a .Mod b pos) (eOp opMod fa fb) := se_op op_mod ok_mod ha hb
theorem w_pow (ha : SE X Wx a fa) (hb : SE X Wx b fb) : SE X Wx (.BinOp a .Pow b pos) (eOp opPow fa fb) := se_op op_pow ok_pow ha hb
theorem w_gt (c : Ctx X Wx k) (ha : SE X Wx a fa) (hb : SE X Wx b fb) (hm : behindInMarks .Gt b = false := by rfl) : SE X Wx (.Compare a [.Gt] [b] pos) (eOp opGt fa fb) := se_cmp op_gt ok_gt ha hb hm
theorem w_ge (c : Ctx X Wx k) (ha : SE X Wx a fa) (hb : SE X Wx b fb) (hm : behindInMarks .GtE b = false := by rfl) : SE X Wx (.Compare a [.GtE] [b] pos) (eOp opGe fa fb) := se_cmp op_ge ok_ge ha hb hm
theorem w_lt (c : Ctx X Wx k) (ha : SE X Wx a fa) (hb : SE X Wx b fb) (hm : behindInMarks .Lt b = false := by rfl) : SE X Wx (.Compare a [.Lt] [b] pos) (eOp opLt fa fb) := se_cmp (or_lt c.u0) ok_lt ha hb hm
theorem w_le (c : Ctx X Wx k) (ha : SE X Wx a fa) (hb : SE X Wx b fb) (hm : behindInMarks .LtE b = false := by rfl) : SE X Wx (.Compare a [.LtE] [b] pos) (eOp opLe fa fb) := se_cmp op_le ok_le ha hb hm
theorem w_eq (c : Ctx X Wx k) (ha : SE X Wx a fa) (hb : SE X Wx b fb) (hm : behindInMarks .Eq b = false := by rfl) : SE X Wx (.Compare a [.Eq] [b] pos) (eOp opEq fa fb) := se_cmp (or_eq c.u64) ok_eq ha hb hm
theorem w_ne (c : Ctx X Wx k) (ha : SE X Wx a fa) (hb : SE X Wx b fb) (hm : behindInMarks .NotEq b = false := by rfl) : SE X Wx (.Compare a [.NotEq] [b] pos) (eOp opNe fa fb) := se_cmp (or_ne c.u64) ok_ne ha hb hm
theorem w_in (c : Ctx X Wx k) (ha : SE X Wx a fa) (hb : SE X Wx b fb) (hm : behindInMarks .In b = false := by rfl) : SE X Wx (.Compare a [.In] [b] pos) (eOp (opIn false) fa fb) := se_cmp (op_in_any c.u65) ok_in ha hb hm
theorem w_notIn (c : Ctx X Wx k) (ha : SE X Wx a fa) (hb : SE X Wx b fb) (hm : behindInMarks .NotIn b = false := by rfl) : SE X Wx (.Compare a [.NotIn] [b] pos) (eOp (opIn true) fa fb) := se_cmp (op_notIn_any c.u65) ok_in ha hb hm
theorem w_isN (c : Ctx X Wx k) (ha : SE X Wx a fa) (hb : SE X Wx b fb) (hm : behindInMarks .Is b = false := by rfl) : SE X Wx (.Compare a [.Is] [b] pos) (eOp opIsN fa fb) := se_cmp op_isN ok_isN ha hb hm
theorem w_notN (c : Ctx X Wx k) (ha : SE X Wx a fa) (hb : SE X Wx b fb) (hm : behindInMarks .IsNot b = false := by rfl) : SE X Wx (.Compare a [.IsNot] [b] pos) (eOp opNotN fa fb) := se_cmp op_notN ok_notN ha hb hm
theorem w_isB (c : Ctx X Wx k) (ha : SE X Wx a fa) (hb : SE X Wx b fb) (hm : behindInMarks .Is b = false := by rfl) : SE X Wx (.Compare a [.Is] [b] pos) (eOp opIsB fa fb) := se_cmp op_isBl ok_isB ha hb hm
theorem w_notB (c : Ctx X Wx k) (ha : SE X Wx a fa) (hb : SE X Wx b fb) (hm : behindInMarks .IsNot b = false := by rfl) : SE X Wx (.Compare a [.IsNot] [b] pos) (eOp opNotB fa fb) := se_cmp op_notBl ok_notB ha hb hm
/-- a comparison (anything whose bool stands in its own place) as a test -/
theorem t_gt (c : Ctx X Wx k) (ha : SE X Wx a fa) (hb : SE X Wx b fb) (hm : behindInMarks .Gt b = false := by rfl) : ST X Wx (.Compare a [.Gt] [b] pos) (tVal (eOp opGt fa fb)) := st_cmp op_gt ok_gt ha hb hm
theorem t_ge (c : Ctx X Wx k) (ha : SE X Wx a fa) (hb : SE X Wx b fb) (hm : behindInMarks .GtE b = false := by rfl) : ST X Wx (.Compare a [.GtE] [b] pos) (tVal (eOp opGe fa fb)) := st_cmp op_ge ok_ge ha hb hm
theorem t_lt (c : Ctx X Wx k) (ha : SE X Wx a fa) (hb : SE X Wx b fb) (hm : behindInMarks .Lt b = false := by rfl) : ST X Wx (.Compare a [.Lt] [b] pos) (tVal (eOp opLt fa fb)) := st_cmp (or_lt c.u0) ok_lt ha hb hm
theorem t_le (c : Ctx X Wx k) (ha : SE X Wx a fa) (hb : SE X Wx b fb) (hm : behindInMarks .LtE b = false := by rfl) : ST X Wx (.Compare a [.LtE] [b] pos) (tVal (eOp opLe fa fb)) := st_cmp op_le ok_le ha hb hm
theorem t_eq (c : Ctx X Wx k) (ha : SE X Wx a fa) (hb : SE X Wx b fb) (hm : behindInMarks .Eq b = false := by rfl) : ST X Wx (.Compare a [.Eq] [b] pos) (tVal (eOp opEq fa fb)) := st_cmp (or_eq c.u64) ok_eq ha hb hm
theorem t_ne (c : Ctx X Wx k) (ha : SE X Wx a fa) (hb : SE X Wx b fb) (hm : behindInMarks .NotEq b = false := by rfl) : ST X Wx (.Compare a [.NotEq] [b] pos) (tVal (eOp opNe fa fb)) := st_cmp (or_ne c.u64) ok_ne ha hb hm
theorem t_in (c : Ctx X Wx k) (ha : SE X Wx a fa) (hb : SE X Wx b fb) (hm : behindInMarks .In b = false := by rfl) : ST X Wx (.Compare a [.In] [b] pos) (tVal (eOp (opIn false) fa fb)) := st_cmp (op_in_any c.u65) ok_in ha hb hm
theorem t_notIn (c : Ctx X Wx k) (ha : SE X Wx a fa) (hb : SE X Wx b fb) (hm : behindInMarks .NotIn b = false := by rfl) : ST X Wx (.Compare a [.NotIn] [b] pos) (tVal (eOp (opIn true) fa fb)) := st_cmp (op_notIn_any c.u65) ok_in ha hb hm
theorem t_isN (c : Ctx X Wx k) (ha : SE X Wx a fa) (hb : SE X Wx b fb) (hm : behindInMarks .Is b = false := by rfl) : ST X Wx (.Compare a [.Is] [b] pos) (tVal (eOp opIsN fa fb)) := st_cmp op_isN ok_isN ha hb hm
theorem t_notN (c : Ctx X Wx k) (ha : SE X Wx a fa) (hb : SE X Wx b fb) (hm : behindInMarks .IsNot b = false := by rfl) : ST X Wx (.Compare a [.IsNot] [b] pos) (tVal (eOp opNotN fa fb)) := st_cmp op_notN ok_notN ha hb hm
theorem t_isB (c : Ctx X Wx k) (ha : SE X Wx a fa) (hb : SE X Wx b fb) (hm : behindInMarks .Is b = false := by rfl) : ST X Wx (.Compare a [.Is] [b] pos) (tVal (eOp opIsB fa fb)) := st_cmp op_isBl ok_isB ha hb hm
theorem t_notB (c : Ctx X Wx k) (ha : SE X Wx a fa) (hb : SE X Wx b fb) (hm : behindInMarks .IsNot b = false := by rfl) : ST X Wx (.Compare a [.IsNot] [b] pos) (tVal (eOp opNotB fa fb)) := st_cmp op_notBl ok_notB ha hb hm
theorem w_ix (c : Ctx X Wx k) (ha : SE X Wx a fa) (hb : SE X Wx b fb) (hs : PlainIx b := by exact fun _ _ => rfl) : SE X Wx (.Subscript a b pos) (eOp opIx fa fb) := se_ix c.u1 ha hb hs
/-! ### built-ins -/
theorem w_len (hm : X.mg "len" = none) (ha : SA X Wx [e] fs) (hg : Gl X "len" := by rfl) (he : starEach [e] X.env = (false, eval e X.env) :: starEach [] X.env := by rfl) (hpl : (backTo pos (starEach [] X.env)).any (·.1) = false := by rfl) :
    SE X Wx (.Call (.Name "len" p) [e] [] pos) (eCallB cLen fs) := se_callB cr_len ok_len hg hm rfl ha (by decide) (by decide) he hpl
theorem w_all (c : Ctx X Wx k) (hm : X.mg "all" = none) (ha : SA X Wx [e] fs) (hg : Gl X "all" := by rfl) (he : starEach [e] X.env = (false, eval e X.env) :: starEach [] X.env := by rfl) (hpl : (backTo pos (starEach [] X.env)).any (·.1) = false := by rfl) :
    SE X Wx (.Call (.Name "all" p) [e] [] pos) (eCallB cAll fs) := se_callB (cr_all c.cm) ok_all hg hm rfl ha (by decide) (by decide) he hpl
theorem w_any (c : Ctx X Wx k) (hm : X.mg "any" = none) (ha : SA X Wx [e] fs) (hg : Gl X "any" := by rfl) (he : starEach [e] X.env = (false, eval e X.env) :: starEach [] X.env := by rfl) (hpl : (backTo pos (starEach [] X.env)).any (·.1) = false := by rfl) :
    SE X Wx (.Call (.Name "any" p) [e] [] pos) (eCallB cAny fs) := se_callB (cr_any c.cm) ok_any hg hm rfl ha (by decide) (by decide) he hpl
theorem w_sum (c : Ctx X Wx k) (hm : X.mg "sum" = none) (ha : SA X Wx [e] fs) (hg : Gl X "sum" := by rfl) (he : starEach [e] X.env = (false, eval e X.env) :: starEach [] X.env := by rfl) (hpl : (backTo pos (starEach [] X.env)).any (·.1) = false := by rfl) :
    SE X Wx (.Call (.Name "sum" p) [e] [] pos) (eCallB cSum fs) := se_callB (cr_sum c.cm) ok_sum hg hm rfl ha (by decide) (by decide) he hpl
theorem w_min1 (c : Ctx X Wx k) (hm : X.mg "min" = none) (ha : SA X Wx [e] fs) (hg : Gl X "min" := by rfl) (he : starEach [e] X.env = (false, eval e X.env) :: starEach [] X.env := by rfl) (hpl : (backTo pos (starEach [] X.env)).any (·.1) = false := by rfl) :
    SE X Wx (.Call (.Name "min" p) [e] [] pos) (eCallB cMin1 fs) := se_callB (cr_min c.cm) ok_min1 hg hm rfl ha (by decide) (by decide) he hpl
theorem w_max1 (c : Ctx X Wx k) (hm : X.mg "max" = none) (ha : SA X Wx [e] fs) (hg : Gl X "max" := by rfl) (he : starEach [e] X.env = (false, eval e X.env) :: starEach [] X.env := by rfl) (hpl : (backTo pos (starEach [] X.env)).any (·.1) = false := by rfl) :
    SE X Wx (.Call (.Name "max" p) [e] [] pos) (eCallB cMax1 fs) := se_callB (cr_max c.cm) ok_max1 hg hm rfl ha (by decide) (by decide) he hpl
theorem w_min2 (c : Ctx X Wx k) (hm : X.mg "min" = none) (ha : SA X Wx [e, a] fs) (hg : Gl X "min" := by rfl) (he : starEach [e, a] X.env = (false, eval e X.env) :: starEach [a] X.env := by rfl) (hpl : (backTo pos (starEach [a] X.env)).any (·.1) = false := by rfl) :
    SE X Wx (.Call (.Name "min" p) [e, a] [] pos) (eCallB cMin2 fs) := se_callB (call_min2 c.cm) ok_min2 hg hm rfl ha (by decide) (by decide) he hpl
theorem w_max2 (c : Ctx X Wx k) (hm : X.mg "max" = none) (ha : SA X Wx [e, a] fs) (hg : Gl X "max" := by rfl) (he : starEach [e, a] X.env = (false, eval e X.env) :: starEach [a] X.env := by rfl) (hpl : (backTo pos (starEach [a] X.env)).any (·.1) = false := by rfl) :
    SE X Wx (.Call (.Name "max" p) [e, a] [] pos) (eCallB cMax2 fs) := se_callB (call_max2 c.cm) ok_max2 hg hm rfl ha (by decide) (by decide) he hpl
theorem w_repr (c : Ctx X Wx k) (hm : X.mg "repr" = none) (ha : SA X Wx [e] fs) (hg : Gl X "repr" := by rfl) (he : starEach [e] X.env = (false, eval e X.env) :: starEach [] X.env := by rfl) (hpl : (backTo pos (starEach [] X.env)).any (·.1) = false := by rfl) :
    SE X Wx (.Call (.Name "repr" p) [e] [] pos) (eCallB cRepr fs) := se_callB (call_reprD c.gd c.u200) ok_repr hg hm rfl ha (by decide) (by decide) he hpl
theorem w_int (hm : X.mg "int" = none) (ha : SA X Wx [e] fs) (hg : Gl X "int" := by rfl) (he : starEach [e] X.env = (false, eval e X.env) :: starEach [] X.env := by rfl) (hpl : (backTo pos (starEach [] X.env)).any (·.1) = false := by rfl) :
    SE X Wx (.Call (.Name "int" p) [e] [] pos) (eCallB cInt fs) := se_callTy call_int1 ok_int hg hm rfl ha (by decide) (by decide) he hpl
theorem w_str (hm : X.mg "str" = none) (ha : SA X Wx [e] fs) (hg : Gl X "str" := by rfl) (he : starEach [e] X.env = (false, eval e X.env) :: starEach [] X.env := by rfl) (hpl : (backTo pos (starEach [] X.env)).any (·.1) = false := by rfl) :
    SE X Wx (.Call (.Name "str" p) [e] [] pos) (eCallB cStr fs) := se_callTy call_str_int ok_str hg hm rfl ha (by decide) (by decide) he hpl
theorem w_tuple (hm : X.mg "tuple" = none) (ha : SA X Wx [e] fs) (hg : Gl X "tuple" := by rfl) (he : starEach [e] X.env = (false, eval e X.env) :: starEach [] X.env := by rfl) (hpl : (backTo pos (starEach [] X.env)).any (·.1) = false := by rfl) :
    SE X Wx (.Call (.Name "tuple" p) [e] [] pos) (eCallB cTuple fs) := se_callTy call_tuple_of ok_tuple hg hm rfl ha (by decide) (by decide) he hpl
theorem w_list (hm : X.mg "list" = none) (ha : SA X Wx [e] fs) (hg : Gl X "list" := by rfl) (he : starEach [e] X.env = (false, eval e X.env) :: starEach [] X.env := by rfl) (hpl : (backTo pos (starEach [] X.env)).any (·.1) = false := by rfl) :
    SF X Wx (.Call (.Name "list" p) [e] [] pos) (fCallB cList fs) := sf_callTy call_list_of ok_list hg hm rfl ha (by decide) (by decide) he hpl
theorem w_sorted (hm : X.mg "sorted" = none) (ha : SA X Wx [e] fs) (hg : Gl X "sorted" := by rfl) (he : starEach [e] X.env = (false, eval e X.env) :: starEach [] X.env := by rfl) (hpl : (backTo pos (starEach [] X.env)).any (·.1) = false := by rfl) :
    SF X Wx (.Call (.Name "sorted" p) [e] [] pos) (fCallB cSorted fs) := sf_callB cr_sortedI ok_sorted hg hm rfl ha (by decide) (by decide) he hpl
/-! ### statements -/
variable {f : EF} {i : Nat} {pos' : Pos} {st : Stmt} {sf : SFn}
theorem z_set (c : Ctx X Wx k) (i : Nat) (he : SE X Wx e f) (hi : X.N[i]? = some x := by rfl) (hx : Loc X.env.scope x := by first | exact Or.inl rfl | exact Or.inr rfl) (hs : swapsWith e (some (.Name x pos')) pos.line X.env = pure false := by rfl)
    (hf : X.fn x = true ∨ X.env.scope.names.lookup x = some .local := by first | exact .inl rfl | exact .inr rfl) : SS X Wx (.Assign [.Name x pos'] e pos) (sSet i f) := ss_set c.nd hi hx he hs hf
theorem g_name (c : Ctx X Wx k) (i : Nat) (hi : X.N[i]? = some x := by rfl) (hx : Loc X.env.scope x := by first | exact Or.inl rfl | exact Or.inr rfl) (hf : X.fn x = true ∨ X.env.scope.names.lookup x = some .local := by first | exact .inl rfl | exact .inr rfl) :
    SG X [i] (.Name x pos) (tN i) := sg_name c.nd hi hx hf
theorem z_for {tg iter : Expr} {body : List Stmt} {s : Srcf} {sl : List Nat} {g : Va → En → LH → Res En} {fb : SFn} (c : CtxF X Wx k) (hi : SI X Wx tg iter s) (hg : SG X sl tg g) (hb : SB X Wx body fb)
    (hs : ∀ x, foldedSetIterable iter X.env x = pure x := by intro _; rfl) : SS X Wx (.For tg iter body [] pos) (sFor s g fb) := ss_for c.pa c.cm hi hg hb hs
theorem z_while {body : List Stmt} {t : En → LH → Res Bool} {fb : SFn} (c : CtxF X Wx k) (ht : ST X Wx e t) (hb : SB X Wx body fb) : SS X Wx (.While e body [] pos) (sWhile t fb) := ss_while c.pa ht hb
end
end L2.HW
/-! SemO: functions that give a new list (nobody else holds it). -/
namespace L2.HW
open PySem PySem.Spec PyProof.Rows
abbrev FnF := List Va → LH → Res Ob
def settleOb (L : LH) (n0 k : Nat) : Ob → Option Ob
  | .lst ws => (mapO (settle L n0 k) ws).map .lst
  | .di kvs => (mapO (fun p : Int × Va => (settle L n0 k p.2).map fun x => (p.1, x)) kvs).map .di
  | .dt kvs => (mapO (fun p : List Int × Va => (settle L n0 k p.2).map fun x => (p.1, x)) kvs).map .dt
  | .ins _ _ => none
@[simp] theorem settleOb_d (L : LH) (n0 k : Nat) (xs : List PyData) : settleOb L n0 k (.lst (xs.map Va.d)) = some (.lst (xs.map Va.d)) := by simp [settleOb, mapO_settle_d]
section
variable {K : PySem.W.Frag} {mg : Str → Option Value} {H H' : Hp} {al al' T T' be : List Addr} {L L' : LH}
/-- .. the settled things read in any heap that tells of the new cells -/
theorem settle_in {M' : Hp} {L0 : LH} (r0 : al.length = L0.length) (r : Rel K mg H' (al ++ be) T L') (m : Le (mask H' ((al ++ be) ++ T)) M')
    (hM : ∀ (n : Nat) (b : Addr) (o : Ob), L0.length ≤ n → (al ++ be)[n]? = some b → L'[n]? = some (some o) → ∀ u, H' b = some u → M' b = some u) : ∀ (k : Nat),
    (∀ (v : V) (w u : Va), Rp K mg (mask H' ((al ++ be) ++ T)) (al ++ be) v w → settle L' L0.length k w = some u → Rp K mg M' al v u) ∧
    (∀ (a : Addr) (o : Ob) (u : Va), (∀ z, H' a = some z → M' a = some z) → ObR K mg (mask H' ((al ++ be) ++ T)) (al ++ be) H' a o → settleO L' L0.length k o = some u → Rp K mg M' al (.ref a) u) := by
  have obj : ∀ k, (∀ (v : V) (w u : Va), Rp K mg (mask H' ((al ++ be) ++ T)) (al ++ be) v w → settle L' L0.length k w = some u → Rp K mg M' al v u) →
      (∀ (a : Addr) (o : Ob) (u : Va), (∀ z, H' a = some z → M' a = some z) → ObR K mg (mask H' ((al ++ be) ++ T)) (al ++ be) H' a o → settleO L' L0.length k o = some u → Rp K mg M' al (.ref a) u) := by
    intro k ih a o u see q e
    cases o with
    | lst ws =>
      obtain ⟨vs, h1, h2⟩ := q
      simp only [settleO] at e
      split at e
      · rename_i us e1
        cases e5 : datas us with
        | none => rw [e5] at e; cases e
        | some xs =>
          rw [e5] at e
          cases e
          have h3 := mapO_rps ih h2 e1
          rw [datas_eq e5] at h3
          exact .d (.lst (see _ h1) (dq_all h3))
      · cases e
    | di kvs =>
      obtain ⟨ks, h1, h2⟩ := q
      simp only [settleO] at e
      split at e
      · rename_i us e1
        cases e
        refine .dct (see _ h1) ?_
        have go : ∀ {ks : List (Key × V)} {kvs : List (Int × Va)} {us : List (Int × PyData)}, KRp K mg (mask H' ((al ++ be) ++ T)) (al ++ be) ks kvs → mapO (fun p : Int × Va => match settle L' L0.length k p.2 with
            | some (.d x) => some (p.1, x)
            | _ => none) kvs = some us → KDp M' ks us := by
          intro ks kvs us h
          induction h generalizing us with
          | nil => intro e; cases e; exact .nil
          | @cons p q ps qs h1 _ ih2 =>
            intro e
            unfold mapO at e
            split at e
            · rename_i b e2
              split at e
              · rename_i bs e3
                cases e
                split at e2
                · rename_i x e4
                  cases e2
                  exact .cons ⟨h1.1, rp_d (ih _ _ _ h1.2 e4)⟩ (ih2 e3)
                · cases e2
              · cases e
            · cases e
        exact go h2 e1
      · cases e
    | dt _ => cases e
    | ins _ _ => cases e
  intro k
  induction k with
  | zero =>
    have h0 : ∀ (v : V) (w u : Va), Rp K mg (mask H' ((al ++ be) ++ T)) (al ++ be) v w → settle L' L0.length 0 w = some u → Rp K mg M' al v u := by
      intro v w u q e
      cases q with
      | d q => cases e; exact .d (Dq.le m q)
      | loc _ => cases e
      | tup _ _ => cases e
      | dct _ _ => cases e
      | exc _ _ => cases e
      | scr _ => cases e
    exact ⟨h0, obj 0 h0⟩
  | succ k ih =>
    have h0 : ∀ (v : V) (w u : Va), Rp K mg (mask H' ((al ++ be) ++ T)) (al ++ be) v w → settle L' L0.length (k + 1) w = some u → Rp K mg M' al v u := by
      intro v w u q e
      cases q with
      | d q => cases e; exact .d (Dq.le m q)
      | @loc n a e1 =>
        rw [settle_loc] at e
        split at e
        · cases e
          exact .loc (by rw [List.getElem?_append_left (by omega)] at e1; exact e1)
        · split at e
          · rename_i o e2
            obtain ⟨b, e3, q3⟩ := r.cell n o e2
            rw [e1] at e3; cases e3
            exact ih.2 a o u (hM n a o (by omega) e1 e2) q3 e
          · cases e
      | tup e1 e2 =>
        simp only [settle] at e
        split at e
        · rename_i us e3
          cases e
          exact rp_mkTup (m _ _ e1) (mapO_rps ih.1 e2 e3)
        · cases e
      | dct e1 e2 => cases e; exact .dct (m _ _ e1) (KDp.le m e2)
      | exc e1 e2 => cases e; exact .exc (m _ _ e1) (ExR.le m e2)
      | scr e1 => cases e; exact .scr (SqL.le m e1)
    exact ⟨h0, obj (k + 1) h0⟩
theorem mapO_krp {κ κ' : Type} {G : κ → κ' → Prop} {M M' : Hp} {al al' : List Addr} {f : Va → Option Va} (hf : ∀ v w u, Rp K mg M al v w → f w = some u → Rp K mg M' al' v u) :
    ∀ {ks : List (κ × V)} {kvs us : List (κ' × Va)}, Paired (fun (p : κ × V) (q : κ' × Va) => G p.1 q.1 ∧ Rp K mg M al p.2 q.2) ks kvs → mapO (fun p : κ' × Va => (f p.2).map fun x => (p.1, x)) kvs = some us → Paired (fun (p : κ × V) (q : κ' × Va) => G p.1 q.1 ∧ Rp K mg M' al' p.2 q.2) ks us := by
  intro ks kvs us h
  induction h generalizing us with
  | nil => intro e; cases e; exact .nil
  | @cons p q ps qs h1 _ ih =>
    intro e
    unfold mapO at e
    split at e
    · rename_i b e2
      split at e
      · rename_i bs e3
        cases e
        cases e4 : f q.2 with
        | none => rw [e4] at e2; cases e2
        | some x =>
          rw [e4] at e2
          cases e2
          exact .cons ⟨h1.1, hf _ _ _ h1.2 e4⟩ (ih e3)
      · cases e
    · cases e
theorem settleOb_in {M M' : Hp} {al al' : List Addr} {L' : LH} {n0 k : Nat} (ih : ∀ (v : V) (w u : Va), Rp K mg M al v w → settle L' n0 k w = some u → Rp K mg M' al' v u) {a : Addr} : ∀ {o u : Ob}, ObR K mg M al H' a o → settleOb L' n0 k o = some u → ObR K mg M' al' H' a u
  | .lst ws, u, ⟨vs, h1, h2⟩, e => by
    simp only [settleOb] at e
    cases e1 : mapO (settle L' n0 k) ws with
    | none => rw [e1] at e; cases e
    | some us => rw [e1] at e; cases e; exact ⟨vs, h1, mapO_rps ih h2 e1⟩
  | .di kvs, u, ⟨ks, h1, h2⟩, e => by
    simp only [settleOb] at e
    cases e1 : mapO (fun p : Int × Va => (settle L' n0 k p.2).map fun x => (p.1, x)) kvs with
    | none => rw [e1] at e; cases e
    | some us => rw [e1] at e; cases e; exact ⟨ks, h1, mapO_krp (G := fun p q => p = Sum.inl q) ih h2 e1⟩
  | .dt kvs, u, ⟨ks, h1, h2⟩, e => by
    simp only [settleOb] at e
    cases e1 : mapO (fun p : List Int × Va => (settle L' n0 k p.2).map fun x => (p.1, x)) kvs with
    | none => rw [e1] at e; cases e
    | some us => rw [e1] at e; cases e; exact ⟨ks, h1, mapO_krp (G := fun (p : List Key) (q : List Int) => p = q.map Sum.inl) ih h2 e1⟩
/-- a new address is kept apart -/
theorem Stp.holdT {a : Addr} (s : Stp K mg H al T L H' al T L') (ha : H a = none) (ha' : H' a ≠ none) (na : a ∉ al) (low : ∀ (n : Nat) (o : Ob), L'[n]? = some (some o) → ∀ b, al[n]? = some b → ObR K mg (mask H' (al ++ (a :: T))) al H' b o) : Stp K mg H al T L H' al (a :: T) L' := by
  have r := s.rel
  refine ⟨⟨r.len, r.nd, fun b hb z => ?_, fun b h => ?_, fun n o e => ?_⟩, ⟨[], by simp, fun _ z => nomatch z⟩, ⟨[a], rfl, fun b hb => ?_⟩, s.frame, s.stay, s.lck, s.alv⟩
  · rcases List.mem_cons.mp z with z | z
    · exact na (z ▸ hb)
    · exact r.dis b hb z
  · rcases h with h | h
    · exact r.trk b (.inl h)
    · rcases List.mem_cons.mp h with z | z
      · rw [z]; exact ha'
      · exact r.trk b (.inr z)
  · obtain ⟨b, e1, _⟩ := r.cell n o e
    exact ⟨b, e1, low n o e b e1⟩
  · have : b = a := by simpa using hb
    rw [this]; exact ha
end
open Classical in
/-- a def that gives a new list -/
noncomputable def mkFnF (np nl : Nat) (body : SFn) : FnF := fun ws L => if ws.length = np then match body (ws.map some ++ List.replicate (nl - ws.length) none) L with
    | .rt (.loc n) L' => if L.length ≤ n then match L'[n]? with
        | some (some o) => match settleOb (L'.set n none) L.length 9 o with
          | some u => if Kept L L' then .ok u (L'.take L.length) else .stuck
          | none => .stuck
        | _ => .stuck
      else .stuck
    | .rf o L' => match settleOb L' L.length 9 o with
      | some u => if Kept L L' then .ok u (L'.take L.length) else .stuck
      | none => .stuck
    | .exc c f _ L' => if Kept L L' then .exc c f (L'.take L.length) else .stuck
    | _ => .stuck
  else .stuck
def NPF (np : Nat) (F : FnF) : Prop := ∀ ws L, ws.length ≠ np → F ws L = .stuck
theorem npf_mk {np nl : Nat} {body : SFn} : NPF np (mkFnF np nl body) := fun ws L h => by unfold mkFnF; rw [if_neg h]
def NPostF (K : PySem.W.Frag) (mg : Str → Option Value) (H : Hp) (al T : List Addr) (L : LH) (r : Res Ob) (Q : VK) (E : XK) : Prop := match r with
  | .ok o L' => ∀ a H' al', H a = none → Stp K mg H al T L H' al' (a :: T) L' → ObR K mg (mask H' (al' ++ (a :: T))) al' H' a o → Q (.ref a) H'
  | .exc c f L' => ∀ cls d H' al', Stp K mg H al T L H' al' T L' → ExR mg (mask H' (al' ++ T)) c f cls d → E cls d H'
  | .stuck => False
def spOfF (K : PySem.W.Frag) (mg : Str → Option Value) (np : Nat) (F : FnF) : Sp := fun vs H Q E => vs.length = np ∧ ∃ ws al T L, Rel K mg H al T L ∧ Rps K mg (mask H (al ++ T)) al vs ws ∧ NPostF K mg H al T L (F ws L) Q E
section
variable {P : Program} {w : World} {K : PySem.W.Frag} {mg : Str → Option Value} {base : Heap} {x qual : Str} {params : Arguments} {body : List Stmt} {scope : Scope} {dvs : List V} {kws : List (Str × V)} {f : Addr} {fd : FuncData}
theorem body_endF {H : Hp} {al T : List Addr} {L : LH} {X : Cx} {Q : VK} {E : XK} {np nl : Nat} {bf : SFn} {ws : List Va} (r0 : Rel X.K X.mg H al T L) (hl : ws.length = np)
    (h : NPostF X.K X.mg H al T L (mkFnF np nl bf ws L) Q E) : SPost X (WxE E) H al T L (bf (ws.map some ++ List.replicate (nl - ws.length) none) L) { nx := fun _ H' => Q .non H', rt := Q } := by
  unfold mkFnF at h
  rw [if_pos hl] at h
  revert h
  generalize bf (ws.map some ++ List.replicate (nl - ws.length) none) L = r
  intro h
  cases r with
  | nx _ _ => exact h.elim
  | bk _ _ => exact h.elim
  | ct _ _ => exact h.elim
  | stuck => exact h.elim
  | exc c f env' L' =>
    intro cls d σ' H' al' s _ q
    simp only at h
    split at h
    · rename_i hk
      obtain ⟨be, e, _⟩ := s.ext
      subst e
      exact h cls d H' al (exitS r0 s hk) (ExR.le (mask_more H' al be T) q)
    · exact h.elim
  | rf o L' =>
    intro a H' al' ha s q
    simp only at h
    split at h
    · rename_i u eu
      split at h
      · rename_i hk
        obtain ⟨be, e, _⟩ := s.ext
        subst e
        have n := r0.fresh ha
        -- the protected address stays so
        have sT : Stp X.K X.mg H al T L H' al (a :: T) (L'.take L.length) := by
          have rr := s.rel
          have fresh : ∀ b ∈ [a], H b = none := by
            intro b hb
            have : b = a := by simpa using hb
            rw [this]
            exact ha
          have base : Stp X.K X.mg H al T L H' al T (L'.take L.length) := exitS r0 (Stp.drop (te := [a]) fresh s) hk
          refine Stp.holdT base ha (rr.trk a (.inr List.mem_cons_self)) n.1 fun i ob ei b eb => ?_
          have hi : i < L.length := by
            have := (List.getElem?_eq_some_iff.mp ei).1
            rw [List.length_take] at this; omega
          rw [List.getElem?_take_of_lt hi] at ei
          obtain ⟨b', e2, q2⟩ := rr.cell i ob ei
          rw [List.getElem?_append_left (by rw [r0.len]; exact hi), eb] at e2
          cases e2
          obtain ⟨b3, e3, q3⟩ := base.rel.cell i ob (by rw [List.getElem?_take_of_lt hi]; exact ei)
          rw [eb] at e3; cases e3
          exact low_ob (be := be) (mask_more H' al be (a :: T)) q2 (ob_low q3)
        refine h a H' al ha sT (settleOb_in ?_ q eu)
        refine (settle_in r0.len s.rel (mask_more H' al be (a :: T)) ?_ 9).1
        intro n b o hn eb _ u hu
        refine mask_of (fun z => ?_) hu
        have hb : b ∈ be := by
          rw [List.getElem?_append_right (by have := r0.len; omega)] at eb
          exact List.mem_of_getElem? eb
        rcases List.mem_append.mp z with z | z
        · exact (List.nodup_append.mp s.rel.nd).2.2 b z b hb rfl
        · exact s.rel.dis b (List.mem_append_right _ hb) z
      · exact h.elim
    · exact h.elim
  | rt v L' =>
    match v with
    | .d _ => exact h.elim
    | .tup _ => exact h.elim
    | .dct _ => exact h.elim
    | .exc _ _ => exact h.elim
    | .scr _ => exact h.elim
    | .loc n =>
      intro v H' al' s q
      simp only at h
      split at h
      · rename_i hn
        split at h
        · rename_i o eo
          split at h
          · rename_i u eu
            split at h
            · rename_i hk
              obtain ⟨be, e, fr⟩ := s.ext
              subst e
              have rr := s.rel
              cases q with
              | @loc _ a ea =>
                obtain ⟨a', ea', qa⟩ := rr.cell n o eo
                rw [ea] at ea'; cases ea'
                have hb : a ∈ be := by
                  rw [List.getElem?_append_right (by have := r0.len; omega)] at ea
                  exact List.mem_of_getElem? ea
                have ha : H a = none := fr a hb
                have na := r0.fresh ha
                have base := exitS r0 s hk
                have mm : Le (mask H' ((al ++ be) ++ T)) (mask H' (al ++ (a :: T))) := fun b o e => by
                  obtain ⟨z, e⟩ := of_mask e
                  refine mask_of (fun y => z ?_) e
                  simp only [List.mem_append, List.mem_cons] at y ⊢
                  rcases y with y | y | y
                  · exact .inl (.inl y)
                  · exact .inl (.inr (y ▸ hb))
                  · exact .inr y
                have sT : Stp X.K X.mg H al T L H' al (a :: T) (L'.take L.length) := by
                  refine Stp.holdT base ha (rr.trk a (.inl (List.mem_append_right _ hb))) na.1 fun i ob ei b eb => ?_
                  have hi : i < L.length := by
                    have := (List.getElem?_eq_some_iff.mp ei).1
                    rw [List.length_take] at this; omega
                  obtain ⟨b3, e3, q3⟩ := base.rel.cell i ob ei
                  rw [List.getElem?_take_of_lt hi] at ei
                  obtain ⟨b', e2, q2⟩ := rr.cell i ob ei
                  rw [List.getElem?_append_left (by rw [r0.len]; exact hi), eb] at e2
                  cases e2
                  rw [eb] at e3; cases e3
                  exact low_ob (be := be) mm q2 (ob_low q3)
                refine h a H' al ha sT (settleOb_in ?_ qa eu)
                refine (settle_in r0.len (rr.lock (some n)) mm ?_ 9).1
                intro m b o2 hm eb eo2 u2 hu
                have hbb : b ∈ be := by
                  rw [List.getElem?_append_right (by have := r0.len; omega)] at eb
                  exact List.mem_of_getElem? eb
                have nb : b ≠ a := by
                  rintro rfl
                  obtain ⟨h1, h2⟩ := List.getElem?_eq_some_iff.mp ea
                  obtain ⟨h3, h4⟩ := List.getElem?_eq_some_iff.mp eb
                  have : m = n := (List.getElem_inj rr.nd).mp (h4.trans h2.symm)
                  subst this
                  have eo2 : (L'.set m none)[m]? = some (some o2) := eo2
                  rw [List.getElem?_set_self (List.getElem?_eq_some_iff.mp eo).1] at eo2
                  cases eo2
                refine mask_of (fun z => ?_) hu
                simp only [List.mem_append, List.mem_cons] at z
                rcases z with z | z | z
                · exact (List.nodup_append.mp rr.nd).2.2 b z b hbb rfl
                · exact nb z
                · exact rr.dis b (List.mem_append_right _ hbb) z
            · exact h.elim
          · exact h.elim
        · exact h.elim
      · exact h.elim
theorem fn_bodyF (F : FunD K x qual params body scope dvs kws f fd) {N ps : List Str} {k np nl : Nat} {bf : SFn} (S : FnScope N ps scope) (hnp : ps.length = np) (hnl : N.length = nl) (hle : np ≤ nl)
    (hb : ∀ (cdv : Value) (A : Around) (outer : List Env) (s : Shared) (H : Hp) (E : XK), A.guards = some [] → Room k (A.deeper (envOfC qual scope s.heap.objs.size f cdv)) → SB (cxOf (L2.CX P w) P w K mg base N qual scope f cdv A outer s H E) (WxE E) body bf) :
    FnG P w K mg base (L2.CX P w) (k + 1) f fd ps (spOfF K mg np (mkFnF np nl bf)) := by
  refine fnG_of F S (fun vs H Q E h => by rw [h.1, hnp]) (fun cdv A outer s H vs Q E hg hr h => ⟨_, hb cdv A outer s H E hg hr, ?_⟩)
  obtain ⟨hl, ws, al, T, L, r, rs, h⟩ := h
  have e := Paired.length rs
  subst hnl
  refine ⟨_, L, al, T, conf_start r rs (by omega), ?_⟩
  exact body_endF (X := cxOf (L2.CX P w) P w K mg base N qual scope f cdv A outer s H E) r (by omega) h
end
def HasF (P : Program) (w : World) (K : PySem.W.Frag) (mg : Str → Option Value) (base : Heap) (x : Str) (ps : List Str) (k : Nat) (F : FnF) : Prop :=
  ∃ f fd, mg x = some (.ref f) ∧ PySem.W.keepIn K (.ref f) = true ∧ Binds K fd ps [] ∧ NPF ps.length F ∧ FnG P w K mg base (L2.CX P w) k f fd ps (spOfF K mg ps.length F)
theorem hasF_of {P : Program} {w : World} {K : PySem.W.Frag} {mg : Str → Option Value} {base : Heap} {x : Str} {st : Stmt} {ps N : List Str} {k nl : Nat} {bf : SFn} (D : Def K mg x st) (hb : BindE x st ps) (S : FnScope N ps (defScope st)) (hnl : N.length = nl) (hle : ps.length ≤ nl)
    (h : ∀ (f : Addr) (cdv : Value) (A : Around) (outer : List Env) (s : Shared) (H : Hp) (E : XK), CtxF (cxOf (L2.CX P w) P w K mg base N x (defScope st) f cdv A outer s H E) (WxE E) k →
      SB (cxOf (L2.CX P w) P w K mg base N x (defScope st) f cdv A outer s H E) (WxE E) (defBody st) bf) : HasF P w K mg base x ps (k + 1) (mkFnF ps.length nl bf) := by
  obtain ⟨f, fd, hm, F⟩ := D
  refine ⟨f, fd, hm, F.kp, fun s us _ hl => by rw [List.append_nil] at hl ⊢; exact FunD.bindsA F hb s us hl, npf_mk, ?_⟩
  refine fn_bodyF F S rfl hnl hle fun cdv A outer s H E hg hr => h f cdv A outer s H E ⟨⟨hg, hr, takes_of rfl rfl rfl rfl, rfl, S.nd⟩, passes_of rfl⟩
section
variable {X : Cx} {Wx : WX} {k j : Nat} {ps : List Str} {F : FnF} {x : Str} {p pos : Pos} {e : Expr} {es : List Expr} {fs : En → LH → Res (List Va)}
def fCall (F : FnF) (fs : En → LH → Res (List Va)) : En → LH → Res Ob := fun env L => (fs env L).bind F
theorem w_callF (c : Ctx X Wx k) (h : HasF X.prog X.w X.K X.mg X.base x ps j F) (ha : SA X Wx (e :: es) fs) (hj : j ≤ k := by decide) (hg : Gl X x := by rfl) (hdb : (x == ("__debug__" : Str)) = false := by decide)
    (he : starEach (e :: es) X.env = (false, eval e X.env) :: starEach es X.env := by rfl) (hpl : (backTo pos (starEach es X.env)).any (·.1) = false := by rfl) : SF X Wx (.Call (.Name x p) (e :: es) [] pos) (fCall F fs) := by
  obtain ⟨f, fd, h1, h2, h3, h4, h5⟩ := h
  refine PE.imp (pe_callG (E := WE Wx) h5 c.gd (c.rm.mono hj) hg h1 h2 h3 (fun σ => passAt c.tk σ) ha hdb he hpl) ?_
  rintro σ H Q ⟨env, L, al, T, cf, q⟩
  refine fseq (R := RVs X) cf q fun vs H1 ws L1 al1 c1 s1 r1 q1 => ?_
  have hl : ws.length = ps.length := by
    by_cases z : ws.length = ps.length
    · exact z
    · rw [h4 ws L1 z] at q1; exact q1.elim
  refine ⟨by rw [Paired.length r1, hl], ws, al1, T, L1, c1.rel, r1, ?_⟩
  revert q1
  generalize F ws L1 = r
  intro q1
  cases r with
  | ok o L2 => exact fun a H' al' ha s q => q1 a H' al' ha s q
  | exc c f L2 => exact fun cls d H' al' s q => q1 cls d H' al' s q
  | stuck => exact q1
end
end L2.HW
/-! SemP: dicts made, dicts walked. -/
namespace L2.HW
open PySem PySem.Spec PyProof.Rows
section
variable {X : Cx} {Wx : WX}
/-- {} -/
def fD0 : En → LH → Res Ob := fun _ L => .ok (.di []) L
theorem sf_d0 {pos : Pos} : SF X Wx (.Dict [] [] pos) fD0 := PE.imp pe_dnewK fun σ H Q ⟨env, L, al, T, c, q⟩ => fnew c.rel q fun p hp e m => ⟨[], e, .nil⟩
/-! ### {k: v for ..} -/
def dcompL (g : Va → En → LH → Res En) (t : En → LH → Res Bool) (fk fv : EF) : List Va → List (Int × Va) → En → LH → Res (List (Int × Va))
  | [], acc, _, L => .ok acc L
  | w :: ws, acc, env, L => match g w env L with
    | .ok env1 L1 => match t env1 L1 with
      | .ok b L2 => if b then match fk env1 L2 with
          | .ok (.d (.int k)) L3 => match fv env1 L3 with
            | .ok u L4 => if acc.length < sizeLine then dcompL g t fk fv ws (aput acc k u) env L4 else .stuck
            | _ => .stuck
          | _ => .stuck
        else dcompL g t fk fv ws acc env L2
      | _ => .stuck
    | _ => .stuck
def fDComp (s : Srcf) (g : Va → En → LH → Res En) (t : En → LH → Res Bool) (fk fv : EF) (vs : List Nat) : En → LH → Res Ob := fun env L => (s env L).bind fun p L1 => match dcompL g t fk fv p.1 [] (wipeE env vs) (lockL p.2 L1) with
  | .ok kvs L2 => .ok (.di kvs) (openL p.2 L1 L2)
  | _ => .stuck
theorem dc_red {wi : TI} {s : Srcf} {sl vs : List Nat} {g : Va → En → LH → Res En} {t : En → LH → Res Bool} {fk fv : EF} {σ : St} {H : Hp} {Q : VK} {gR : TG} {tR : TT} {kR vR : TE} (hv : ∀ j ∈ sl, j ∈ vs)
    (hw : ∀ σ H R, (∃ env L al T, Conf X.K X.mg σ H env L al T ∧ IPost X Wx σ H al T L (s env L) R) → wi σ H R)
    (hgR : ∀ v σ H Q, (∃ w env L al T, Conf X.K X.mg σ H env L al T ∧ RV X (mask H (al ++ T)) al v w ∧ TPost X sl σ H al T L (g w env L) Q) → gR v σ H Q)
    (htR : ∀ σ H Q, Rdg X FX RB t σ H Q → tR σ H Q) (hkR : ∀ σ H Q, Rdg X FX (RV X) fk σ H Q → kR σ H Q) (hvR : ∀ σ H Q, Rdg X FX (RV X) fv σ H Q → vR σ H Q)
    (h : FRdg X Wx (fDComp s g t fk fv vs) σ H Q) : tDc wi gR tR kR vR vs σ H Q := by
  obtain ⟨env, L, al, T, c, h⟩ := h
  refine hw _ _ _ ⟨env, L, al, T, c, ?_⟩
  unfold fDComp at h
  revert h
  generalize s env L = r
  intro h
  cases r with
  | stuck => exact h
  | exc c' f L1 => exact h
  | ok p L1 =>
    obtain ⟨ws, lk⟩ := p
    intro J H1 al1 s1 wk D hD
    have c1 := c.stp s1
    simp only [Res.bind_ok] at h
    have hl : al1.length = (lockL lk L1).length := (c1.rel.lock lk).len
    have c1l := c1.lock lk
    have s0 : Stp X.K X.mg H1 al1 T (lockL lk L1) (upd H1 D (.dK [])) al1 (D :: T) (lockL lk L1) := c1l.rel.allocT hD
    let W : Nat → Nat → Hp → Prop := fun i m H2 => m = ws.length - i ∧ i ≤ ws.length ∧ ∃ al2 L2 av aw, Stp X.K X.mg H1 al1 T (lockL lk L1) H2 al2 (D :: T) L2 ∧ H2 D = some (.dK av) ∧ KRp X.K X.mg (mask H2 (al2 ++ (D :: T))) al2 av aw ∧
      FPost X Wx σ H1 al1 T L1 (match dcompL g t fk fv (ws.drop i) aw (wipeE env vs) L2 with
        | .ok us L3 => .ok (.di us) (openL lk L1 L3)
        | _ => .stuck) Q
    have back : ∀ x, H1 x = none → H x = none := fun x z => s1.back z
    have h1 : FPost X Wx σ H1 al1 T L1 (match dcompL g t fk fv ws [] (wipeE env vs) (lockL lk L1) with
        | .ok us L3 => .ok (.di us) (openL lk L1 L3)
        | _ => .stuck) Q := by
      revert h
      generalize dcompL g t fk fv ws [] (wipeE env vs) (lockL lk L1) = r2
      intro h
      cases r2 with
      | ok us L3 => exact fun a H' al' ha t q => h a H' al' (back a ha) (Stp.trans c.rel.len s1 t) q
      | exc _ _ _ => exact h.elim
      | stuck => exact h.elim
    refine ⟨W, ⟨ws.length, by simp, Nat.zero_le _, al1, lockL lk L1, [], [], s0, upd_same, .nil, by simpa using h1⟩, ?_⟩
    rintro i m H2 ⟨rfl, hi, al2, L2, av, aw, s2, hav, raw, h2⟩
    obtain ⟨stop, item⟩ := wk H2 al2 (D :: T) L2 s2
    by_cases hlt : i < ws.length
    · have ew : ws[i]? = some ws[i] := List.getElem?_eq_getElem hlt
      obtain ⟨go, yl⟩ := item i _ ew
      refine .inr ⟨go, W (i + 1) (ws.length - (i + 1)), fun H' n => ⟨ws.length - (i + 1), by omega, n⟩, fun x H3 y => ?_⟩
      obtain ⟨s3, rx⟩ := yl x H3 y
      have s13 := Stp.trans hl s2 s3
      have c3 : Conf X.K X.mg (wipe σ vs) H3 (wipeE env vs) L2 al2 (D :: T) := (c1l.wiped vs).stp s13
      refine hgR _ _ _ _ ⟨ws[i], wipeE env vs, L2, al2, D :: T, c3, rx, ?_⟩
      rw [List.drop_eq_getElem_cons hlt] at h2
      unfold dcompL at h2
      revert h2
      generalize g ws[i] (wipeE env vs) L2 = r1
      intro h2
      cases r1 with
      | stuck => exact h2
      | exc _ _ _ => exact h2
      | ok env4 L4 =>
        intro σ4 H4 al4 s4 c4 ag
        have s14 := Stp.trans hl s13 s4
        refine ⟨wipe_agr ag hv, htR _ _ _ ⟨env4, L4, al4, D :: T, c4, ?_⟩⟩
        simp only at h2
        revert h2
        generalize t env4 L4 = r2
        intro h2
        cases r2 with
        | stuck => exact h2
        | exc _ _ _ => exact h2.elim
        | ok b L5 =>
          intro b' H5 al5 s5 e5
          obtain rfl : b' = b := e5
          have s15 := Stp.trans hl s14 s5
          have h5 : H5 D = some (.dK av) := s5.frame D _ (s4.frame D _ (s3.frame D _ hav (fun z => s2.rel.dis D z.mem List.mem_cons_self)) (fun z => s3.rel.dis D z.mem List.mem_cons_self)) (fun z => s4.rel.dis D z.mem List.mem_cons_self)
          have up : ∀ {H6 al6 L6}, Stp X.K X.mg H5 al5 (D :: T) L5 H6 al6 (D :: T) L6 → KRp X.K X.mg (mask H6 (al6 ++ (D :: T))) al6 av aw := fun {H6 al6 L6} s6 => by
            have l1 := Le.trans (Le.trans (Le.trans s3.le s4.le) s5.le) s6.le
            have a1 : ALe al2 al6 := fun k a e => s6.ale _ _ (s5.ale _ _ (s4.ale _ _ (s3.ale _ _ e)))
            exact Paired.map2 (fun _ _ q => ⟨q.1, Rp.le l1 a1 q.2⟩) raw
          simp only at h2
          cases b' with
          | false =>
            rw [if_neg Bool.false_ne_true] at h2 ⊢
            exact ⟨rfl, hlt, al5, L5, av, aw, s15, h5, up (Stp.refl s5.rel), h2⟩
          | true =>
            rw [if_pos rfl] at h2 ⊢
            have c5 := c4.stp s5
            refine hkR _ _ _ ⟨env4, L5, al5, D :: T, c5, ?_⟩
            revert h2
            generalize fk env4 L5 = r3
            intro h2
            cases r3 with
            | stuck => exact h2
            | exc _ _ _ => exact h2.elim
            | ok kw L6 =>
              intro yk H6 al6 s6 ryk
              have s16 := Stp.trans hl s15 s6
              have c6 := c5.stp s6
              match kw, h2, ryk with
              | .d (.int k), h2, ryk =>
                refine hvR _ _ _ ⟨env4, L6, al6, D :: T, c6, ?_⟩
                revert h2
                simp only
                generalize fv env4 L6 = r4
                intro h2
                cases r4 with
                | stuck => exact h2
                | exc _ _ _ => exact h2.elim
                | ok u L7 =>
                  intro yv H7 al7 s7 ryv
                  simp only at h2
                  by_cases hz : aw.length < sizeLine
                  · rw [if_pos hz] at h2
                    have s17 := Stp.trans hl s16 s7
                    have h7 : H7 D = some (.dK av) := s7.frame D _ (s6.frame D _ h5 (fun z => s5.rel.dis D z.mem List.mem_cons_self)) (fun z => s6.rel.dis D z.mem List.mem_cons_self)
                    have raw7 := up (Stp.trans s5.rel.len s6 s7)
                    have e : yk = kV (Sum.inl k) := dq_int (rp_d ryk)
                    refine ⟨av, Sum.inl k, e, h7, by rw [Paired.length raw7]; exact hz, rfl, hlt, al7, L7, putK av (Sum.inl k) yv, aput aw k u, Stp.updT hD s17, upd_same, ?_, h2⟩
                    rw [mask_in (by simp)]
                    exact put_pair (f := Sum.inl) (fun a b h => Sum.inl.inj h) raw7 k ryv
                  · rw [if_neg hz] at h2
                    exact h2.elim
              | .d .none, h2, _ => exact h2.elim
              | .d (.bool _), h2, _ => exact h2.elim
              | .d (.str _), h2, _ => exact h2.elim
              | .d (.list _), h2, _ => exact h2.elim
              | .d (.tuple _), h2, _ => exact h2.elim
              | .d (.dict _), h2, _ => exact h2.elim
              | .loc _, h2, _ => exact h2.elim
              | .tup _, h2, _ => exact h2.elim
              | .dct _, h2, _ => exact h2.elim
              | .exc _ _, h2, _ => exact h2.elim
              | .scr _, h2, _ => exact h2.elim
    · have e : i = ws.length := by omega
      subst e
      rw [List.drop_length] at h2
      unfold dcompL at h2
      exact .inl ⟨stop, h2 D H2 al2 hD (Stp.opened c1.rel s2) ⟨av, hav, raw⟩⟩
theorem sf_dcomp {kx vx tg iter : Expr} {ifs : List Expr} {scope : Scope} {own : List (Str × Nat)} {pos : Pos} {s : Srcf} {sl : List Nat} {g : Va → En → LH → Res En} {t : En → LH → Res Bool} {fk fv : EF} (hc : X.calm = true) (hN : X.N.Nodup) (hi : SI X Wx tg iter s) (ok : BlkOk X.N X.env.scope scope own)
    (hv : ∀ j ∈ sl, j ∈ own.map (·.2)) (hg : BlkP X scope fun X => SG X sl tg g) (ht : BlkP X scope fun X => STs X FX ifs t) (hk : BlkP X scope fun X => SE X FX kx fk) (he : BlkP X scope fun X => SE X FX vx fv) (hs : ∀ x, foldedSetIterable iter X.env x = pure x := by intro _; rfl) :
    SF X Wx (.DictComp kx vx [⟨tg, iter, ifs, 0⟩] scope pos) (fDComp s g t fk fv (own.map (·.2))) :=
  PE.imp (pe_dc (g := gRd X sl g) (tt := Rdg X FX RB t) (tk := Rdg X FX (RV X) fk) (tv := Rdg X FX (RV X) fv) hc hN hi ok (fun s H C cl fp => hg s H C cl fp) (fun s H C cl fp => ht s H C cl fp) (fun s H C cl fp => hk s H C cl fp) (fun s H C cl fp => he s H C cl fp) hs)
    fun σ H Q h => dc_red hv (fun _ _ _ h => h) (fun _ _ _ _ h => h) (fun _ _ _ h => h) (fun _ _ _ h => h) (fun _ _ _ h => h) h
/-! ### [.. for k in d], d a dict's cell in a slot -/
def keysOf (L : LH) (n : Nat) : Option (List Va) := match L[n]? with
  | some (some (.di kvs)) => some (kvs.map fun p => .d (.int p.1))
  | _ => none
def srcK (i : Nat) : Srcf := fun env L => match env[i]? with
  | some (some (.loc n)) => match keysOf L n with
    | some ks => .ok (ks, some n) L
    | none => .stuck
  | _ => .stuck
end
section
variable {K : PySem.W.Frag} {mg : Str → Option Value} {H : Hp} {al T : List Addr} {L : LH}
theorem rel_frz (r : Rel K mg H al T L) {n : Nat} {a : Addr} {u : HO} (ea : al[n]? = some a) : Rel K mg (upd H a u) al T (lockL (some n) L) := by
  have r1 := r.lock (some n)
  have ha : a ∈ al := List.mem_of_getElem? ea
  have m : mask (upd H a u) (al ++ T) = mask H (al ++ T) := mask_in (List.mem_append_left _ ha)
  refine ⟨r1.len, r1.nd, r1.dis, fun b h => ?_, fun k o e => ?_⟩
  · by_cases z : b = a
    · rw [z, upd_same]; simp
    · rw [upd_ne z]; exact r1.trk b h
  · obtain ⟨b, e1, q⟩ := r1.cell k o e
    rw [m]
    have : b ≠ a := by
      rintro rfl
      obtain ⟨h1, h2⟩ := List.getElem?_eq_some_iff.mp ea
      obtain ⟨h3, h4⟩ := List.getElem?_eq_some_iff.mp e1
      have : k = n := (List.getElem_inj r.nd).mp (h4.trans h2.symm)
      subst this
      unfold lockL at e
      by_cases hk : k < L.length
      · rw [List.getElem?_set_self hk] at e; cases e
      · rw [List.getElem?_eq_none (by simpa using hk)] at e; cases e
    exact ⟨b, e1, ObR.le (Le.refl _) (ALe.refl _) (fun _ z => by rw [upd_ne this]; exact z) q⟩
theorem not_alv_lock (r : Rel K mg H al T L) {n : Nat} {a : Addr} (ea : al[n]? = some a) : ¬ Alv al (lockL (some n) L) a := by
  rintro ⟨k, o, e1, e2⟩
  obtain ⟨h1, h2⟩ := List.getElem?_eq_some_iff.mp ea
  obtain ⟨h3, h4⟩ := List.getElem?_eq_some_iff.mp e1
  have : k = n := (List.getElem_inj r.nd).mp (h4.trans h2.symm)
  subst this
  unfold lockL at e2
  by_cases hk : k < L.length
  · rw [List.getElem?_set_self hk] at e2; cases e2
  · rw [List.getElem?_eq_none (by simpa using hk)] at e2; cases e2
/-- the walk over, the dict as it was -/
theorem Stp.thaw {n : Nat} {a : Addr} {ob : Ob} {u z : HO} {H2 : Hp} {al2 T2 : List Addr} {L2 : LH} (r : Rel K mg H al T L) (ea : al[n]? = some a) (eo : L[n]? = some (some ob)) (hu : H a = some u)
    (s : Stp K mg (upd H a z) al T (lockL (some n) L) H2 al2 T2 L2) : Stp K mg H al T L (upd H2 a u) al2 T2 (openL (some n) L L2) := by
  have ha : a ∈ al := List.mem_of_getElem? ea
  obtain ⟨be, e1, f1⟩ := s.ext
  obtain ⟨te, e2, f2⟩ := s.text
  have ha2 : a ∈ al2 := by rw [e1]; exact List.mem_append_left _ ha
  have ea2 : al2[n]? = some a := s.ale _ _ ea
  have m2 : mask (upd H2 a u) (al2 ++ T2) = mask H2 (al2 ++ T2) := mask_in (List.mem_append_left _ ha2)
  have m1 : mask (upd H a z) (al ++ T) = mask H (al ++ T) := mask_in (List.mem_append_left _ ha)
  have hn : n < L.length := (List.getElem?_eq_some_iff.mp eo).1
  have hL2 : n < L2.length := by rw [← s.rel.len]; exact (List.getElem?_eq_some_iff.mp ea2).1
  have op : openL (some n) L L2 = L2.set n (some ob) := by simp [openL, eo]
  have old : ∀ b, upd H a z b = none → H b = none := fun b h => by
    by_cases q : b = a
    · rw [q, upd_same] at h; cases h
    · rw [upd_ne q] at h; exact h
  rw [op]
  refine ⟨⟨by simpa using s.rel.len, s.rel.nd, s.rel.dis, fun b h => ?_, fun k o e => ?_⟩, ⟨be, e1, fun b hb => old b (f1 b hb)⟩, ⟨te, e2, fun b hb => old b (f2 b hb)⟩, fun b o e nb => ?_, fun b e => ?_, fun k e => ?_, fun k o e => ?_⟩
  · by_cases q : b = a
    · rw [q, upd_same]; simp
    · rw [upd_ne q]; exact s.rel.trk b h
  · rw [m2]
    by_cases q : k = n
    · subst q
      rw [List.getElem?_set_self hL2] at e
      cases e
      obtain ⟨b, e3, qb⟩ := r.cell k ob eo
      rw [ea] at e3; cases e3
      refine ⟨a, ea2, ObR.le (by rw [← m1]; exact s.le) s.ale (fun o h => ?_) qb⟩
      rw [hu] at h; cases h; exact upd_same
    · rw [List.getElem?_set_ne (Ne.symm q)] at e
      obtain ⟨b, e3, qb⟩ := s.rel.cell k o e
      have : b ≠ a := by
        rintro rfl
        obtain ⟨h1, h2⟩ := List.getElem?_eq_some_iff.mp ea2
        obtain ⟨h3, h4⟩ := List.getElem?_eq_some_iff.mp e3
        exact q ((List.getElem_inj s.rel.nd).mp (h4.trans h2.symm))
      exact ⟨b, e3, ObR.le (Le.refl _) (ALe.refl _) (fun _ h => by rw [upd_ne this]; exact h) qb⟩
  · by_cases q : b = a
    · subst q
      rw [hu] at e; cases e; exact upd_same
    · rw [upd_ne q]
      refine s.frame b o (by rw [upd_ne q]; exact e) fun ⟨k, o', h1, h2⟩ => nb ?_
      unfold lockL at h2
      by_cases qk : k = n
      · subst qk
        rw [List.getElem?_set_self hn] at h2; cases h2
      · rw [List.getElem?_set_ne (Ne.symm qk)] at h2
        exact ⟨k, o', h1, h2⟩
  · by_cases q : b = a
    · rw [q, upd_same]; simp
    · rw [upd_ne q]; exact s.stay b (by rw [upd_ne q]; exact e)
  · by_cases q : k = n
    · subst q; rw [eo] at e; cases e
    · rw [List.getElem?_set_ne (Ne.symm q)]
      exact s.lck k (by unfold lockL; rw [List.getElem?_set_ne (Ne.symm q)]; exact e)
  · by_cases q : k = n
    · subst q; exact ⟨ob, List.getElem?_set_self hL2⟩
    · rw [List.getElem?_set_ne (Ne.symm q)]
      exact s.alv k o (by unfold lockL; rw [List.getElem?_set_ne (Ne.symm q)]; exact e)
end
section
variable {X : Cx} {Wx : WX}
theorem pget {α β : Type} {F : α → β → Prop} : ∀ {xs : List α} {ys : List β} {i : Nat} {y : β}, Paired F xs ys → ys[i]? = some y → ∃ x, xs[i]? = some x ∧ F x y
  | _, _, _, _, .nil, e => by simp at e
  | _, _, 0, _, .cons a _, e => by simp at e; subst e; exact ⟨_, rfl, a⟩
  | _, _, i + 1, _, .cons _ b, e => by simpa using pget (i := i) b (by simpa using e)
theorem sf_compK {i : Nat} {x : Str} {p : Pos} {elt tg : Expr} {ifs : List Expr} {scope : Scope} {own : List (Str × Nat)} {pos : Pos} {sl : List Nat} {g : Va → En → LH → Res En} {t : En → LH → Res Bool} {f : EF} (hc : X.calm = true) (hN : X.N.Nodup)
    (ok : BlkOk X.N X.env.scope scope own) (hv : ∀ j ∈ sl, j ∈ own.map (·.2)) (hg : BlkP X scope fun X => SG X sl tg g) (ht : BlkP X scope fun X => STs X FX ifs t) (he : BlkP X scope fun X => SE X FX elt f)
    (hNi : X.N[i]? = some x := by rfl) (hvis : Vis X.env.scope x := by first | exact Or.inl rfl | exact Or.inr (Or.inl rfl) | exact Or.inr (Or.inr rfl)) (hd : (x == ("__debug__" : Str)) = false := by decide) (hcd : (x == ("__classdict__" : Str)) = false := by decide)
    (hs : ∀ z, foldedSetIterable (.Name x p) X.env z = pure z := by intro _; rfl) :
    SF X Wx (.ListComp elt [⟨tg, .Name x p, ifs, 0⟩] scope pos) (fComp (srcK i) g t f (own.map (·.2))) := by
  refine PE.imp (pe_lock (pe_lc (g := gRd X sl g) (tt := Rdg X FX RB t) (te := Rdg X FX (RV X) f) hc hN (pi_keys (pe_var hNi hvis hd hcd)) ok (fun s H C cl fp => hg s H C cl fp) (fun s H C cl fp => ht s H C cl fp) (fun s H C cl fp => he s H C cl fp) hs)) ?_
  rintro σ H Q ⟨env, L, al, T, c, h⟩
  have h0 : ∃ n kvs, env[i]? = some (some (.loc n)) ∧ L[n]? = some (some (.di kvs)) ∧ FPost X Wx σ H al T L (if (kvs.map fun p => Va.d (.int p.1)).length ≤ sizeLine then match compL g t f (kvs.map fun p => Va.d (.int p.1)) (wipeE env (own.map (·.2))) (lockL (some n) L) with
      | .ok us L2 => .ok (.lst us) (openL (some n) L L2)
      | _ => .stuck
      else .stuck) Q := by
    unfold fComp srcK at h
    split at h
    · rename_i n e
      unfold keysOf at h
      cases e2 : L[n]? with
      | none => rw [e2] at h; exact h.elim
      | some o =>
        cases o with
        | none => rw [e2] at h; exact h.elim
        | some o =>
          cases o with
          | di kvs => rw [e2] at h; exact ⟨n, kvs, e, e2, h⟩
          | lst _ => rw [e2] at h; exact h.elim
          | dt _ => rw [e2] at h; exact h.elim
          | ins _ _ => rw [e2] at h; exact h.elim
    · exact h.elim
  clear h
  obtain ⟨n, kvs, e, eo, h⟩ := h0
  obtain ⟨v, sv, rv⟩ := c.slot i _ e
  cases rv with
  | @loc _ a ea =>
    obtain ⟨a', ea', ks, hH, kr⟩ := c.rel.cell n _ eo
    rw [ea] at ea'; cases ea'
    refine ⟨a, .dK ks, hH, trivial, fun od => ?_⟩
    have m : mask (upd H a (.frz od (.dK ks))) (al ++ T) = mask H (al ++ T) := mask_in (List.mem_append_left _ (List.mem_of_getElem? ea))
    have c' : Conf X.K X.mg σ (upd H a (.frz od (.dK ks))) env (lockL (some n) L) al T := ⟨rel_frz c.rel ea, c.len, fun j w z => by
      obtain ⟨v, h1, h2⟩ := c.slot j w z
      exact ⟨v, h1, by rw [m]; exact h2⟩⟩
    have lenk : ks.length = kvs.length := Paired.length kr
    refine lc_at (Wx := Wx) (s := fun _ L => .ok (kvs.map fun p => Va.d (.int p.1), none) L) hv c' (fun R q => ?_) (fun _ _ _ _ h => h) (fun _ _ _ h => h) (fun _ _ _ h => h) ?_
    · refine ⟨.ref a, sv, a, od, rfl, .inl ⟨ks, upd_same, q _ _ al (Stp.refl c'.rel) ?_⟩⟩
      intro H1 al1 T1 L1 s
      have h1 : H1 a = some (.frz od (.dK ks)) := s.frame a _ upd_same (not_alv_lock c.rel ea)
      refine ⟨⟨h1, by simp [lenk]⟩, fun j w ej => ?_⟩
      rw [List.getElem?_map] at ej
      cases ek : kvs[j]? with
      | none => rw [ek] at ej; cases ej
      | some pk =>
        rw [ek] at ej
        cases ej
        obtain ⟨⟨k, v⟩, hk, hk2, _⟩ := pget kr ek
        refine ⟨⟨h1, (List.getElem?_eq_some_iff.mp hk).1⟩, fun x H2 y => ?_⟩
        obtain ⟨rfl, k', v', h3, rfl⟩ := y
        rw [hk] at h3; cases h3
        have hk2 : k = Sum.inl pk.1 := hk2
        subst hk2
        exact ⟨Stp.refl s.rel, .d (.int _)⟩
    · unfold fComp
      simp only [Res.bind_ok, lockL_none, openL_none]
      revert h
      split
      · intro h
        revert h
        generalize compL g t f (kvs.map fun p => Va.d (.int p.1)) (wipeE env (own.map (·.2))) (lockL (some n) L) = r
        intro h
        cases r with
        | stuck => exact h
        | exc _ _ _ => exact h
        | ok us L2 =>
          intro a2 H2 al2 ha2 s q
          have ne : a2 ≠ a := by
            rintro rfl
            rw [upd_same] at ha2; cases ha2
          have st := Stp.thaw c.rel ea eo hH s
          refine ⟨s.frame a _ upd_same (not_alv_lock c.rel ea), h a2 _ al2 (by rw [upd_ne ne] at ha2; exact ha2) st ?_⟩
          obtain ⟨vs, q1, q2⟩ := q
          have ina : a ∈ al2 ++ (a2 :: T) := List.mem_append_left _ (List.mem_of_getElem? (s.ale _ _ ea))
          exact ⟨vs, by rw [upd_ne ne]; exact q1, by rw [mask_in ina]; exact q2⟩
      · intro h; exact h
end
section
variable {X : Cx} {Wx : WX}
/-- y = {k: v for ..} on one line -/
theorem ps_setDcM {i : Nat} {y : Str} {py : Pos} {kx vx tg iter : Expr} {ifs : List Expr} {scope : Scope} {own : List (Str × Nat)} {pos spos : Pos} {wi : TI} {g : TG} {tt : TT} {tk tv : TE} (hc : X.calm = true) (hN : X.N.Nodup) (hy : X.N[i]? = some y) (hyl : X.env.scope.names.lookup y = some .local)
    (hsw : swapsWith (.DictComp kx vx [⟨tg, iter, ifs, 0⟩] scope pos) (some (.Name y py)) spos.line X.env = pure true) (hi : PI X tg iter wi) (ok : BlkOk X.N X.env.scope scope own)
    (hg : BlkP X scope fun X => PG X tg g) (ht : BlkP X scope fun X => PTs X ifs tt) (hk : BlkP X scope fun X => PE X kx tk) (he : BlkP X scope fun X => PE X vx tv) (hs : ∀ x, foldedSetIterable iter X.env x = pure x) :
    PS X (.Assign [.Name y py] (.DictComp kx vx [⟨tg, iter, ifs, 0⟩] scope pos) spos) (tAsg (tDc wi g tt tk tv (own.map (·.2))) (gName i)) := by
  refine ⟨fun pins s σ H D I h => ?_⟩
  rw [exec_Assign_Name_used _ _ _ _ hsw]
  refine wpAny_bind (wpAny_standAt (wpAny_bind ?_))
  have h : tDc wi g tt tk tv (own.map (·.2)) σ H (fun x H1 => gName i x σ H1 D.nx) := h
  show wpAny _ X.A (do let _ ← comprehension (.DictComp kx vx [⟨tg, iter, ifs, 0⟩] scope pos) scope X.env (firstIterPos [⟨tg, iter, ifs, 0⟩] pos) newDict false (eval iter X.env) (some (assign (.Name y py) X.env))) _ _ s
  refine wpAny_bind (thn (dc_core (Qf := fun _ t => SP X pins D .next t) hc hN I hi ok hg ht hk he hs h fun L C t m H' I' q hn f => ?_) fun _ t hq => wpAny_pure (wpAny_pure hq))
  show wpAny _ _ (assign (.Name y py) X.env (.ref L)) _ _ _
  obtain ⟨f0, f1, f2, f3, f4, f5⟩ := f
  refine wpAny_assign_Name (store_ok2 (v := V.ref L) I' hN hy (.inl hyl) rfl (fun t2 I2 ⟨a, sb, ha⟩ => ?_) (.inr hyl))
  have ne : C ≠ a := ha.elim (fun z => by rw [z]; exact f1) fun z e => f4 y a z e.symm
  exact ⟨m, hn.sameBut sb ne, fun t3 sb3 => ⟨_, H', I2.turned (t' := t2.toks) (fun b o hb e => (sb3.2 b hb).trans e) f0 f1 f3 f4 f5, q⟩⟩
theorem ss_newDcomp {i : Nat} {y : Str} {py : Pos} {kx vx tg iter : Expr} {ifs : List Expr} {scope : Scope} {own : List (Str × Nat)} {pos spos : Pos} {s : Srcf} {sl : List Nat} {g : Va → En → LH → Res En} {t : En → LH → Res Bool} {fk fv : EF} (hc : X.calm = true) (hN : X.N.Nodup) (hy : X.N[i]? = some y) (hyl : X.env.scope.names.lookup y = some .local)
    (hsw : swapsWith (.DictComp kx vx [⟨tg, iter, ifs, 0⟩] scope pos) (some (.Name y py)) spos.line X.env = pure true) (hi : SI X Wx tg iter s) (ok : BlkOk X.N X.env.scope scope own)
    (hv : ∀ j ∈ sl, j ∈ own.map (·.2)) (hg : BlkP X scope fun X => SG X sl tg g) (ht : BlkP X scope fun X => STs X FX ifs t) (hk : BlkP X scope fun X => SE X FX kx fk) (he : BlkP X scope fun X => SE X FX vx fv) (hs : ∀ x, foldedSetIterable iter X.env x = pure x := by intro _; rfl) :
    SS X Wx (.Assign [.Name y py] (.DictComp kx vx [⟨tg, iter, ifs, 0⟩] scope pos) spos) (sSet i (eNew (fDComp s g t fk fv (own.map (·.2))))) := by
  refine PS.imp (ps_setDcM (g := gRd X sl g) (tt := Rdg X FX RB t) (tk := Rdg X FX (RV X) fk) (tv := Rdg X FX (RV X) fv) hc hN hy hyl hsw hi ok hg ht hk he hs) ?_
  rintro D σ H ⟨env, L, al, T, c, h⟩
  refine dc_red hv (fun _ _ _ h => h) (fun _ _ _ _ h => h) (fun _ _ _ h => h) (fun _ _ _ h => h) (fun _ _ _ h => h) ⟨env, L, al, T, c, ?_⟩
  unfold sSet eNew at h
  revert h
  generalize fDComp s g t fk fv (own.map (·.2)) env L = r
  intro h
  cases r with
  | stuck => exact h
  | exc c' f' L1 => exact fun cls d H' al' s e => h cls d σ H' al' s (c.stp s) e
  | ok o L1 =>
    intro a H' al' ha st ob
    have st' := Stp.cell c.rel ha st ob
    refine h _ H' (al' ++ [a]) st' ((c.stp st').put (.loc ?_))
    rw [← st.rel.len, List.getElem?_append_right (Nat.le_refl _), Nat.sub_self]
    rfl
end
end L2.HW
/-! SemU: combinators where they are applied. -/
namespace L2.HW
open PySem PySem.Spec PyProof.Rows
@[simp] theorem u_eVar (i : Nat) env L : eVar i env L = (match env[i]? with
  | some (some w) => .ok w L
  | _ => .stuck) := by first | exact (rfl) | (unfold eVar; exact (rfl))
@[simp] theorem u_eC (x : PyData) x0 L : eC x x0 L = (.ok (.d x) L) := by first | exact (rfl) | (unfold eC; exact (rfl))
@[simp] theorem u_eOp (g : Op2) (a b : EF) env L : eOp g a b env L = ((a env L).bind fun w L1 => (b env L1).bind fun u L2 => g w u L2) := by first | exact (rfl) | (unfold eOp; exact (rfl))
@[simp] theorem u_tVal (f : EF) env L : tVal f env L = ((f env L).bind fun w L1 => match w with
  | .d (.bool b) => .ok b L1
  | _ => .stuck) := by first | exact (rfl) | (unfold tVal; exact (rfl))
@[simp] theorem u_tAndF (f g : En → LH → Res Bool) env L : tAndF f g env L = ((f env L).bind fun b L1 => if b then g env L1 else .ok false L1) := by first | exact (rfl) | (unfold tAndF; exact (rfl))
@[simp] theorem u_tOrF (f g : En → LH → Res Bool) env L : tOrF f g env L = ((f env L).bind fun b L1 => if b then .ok true L1 else g env L1) := by first | exact (rfl) | (unfold tOrF; exact (rfl))
@[simp] theorem u_tNotF (f : En → LH → Res Bool) env L : tNotF f env L = ((f env L).bind fun b L1 => .ok (!b) L1) := by first | exact (rfl) | (unfold tNotF; exact (rfl))
@[simp] theorem u_eIf (t : En → LH → Res Bool) (f g : EF) env L : eIf t f g env L = ((t env L).bind fun b L1 => if b then f env L1 else g env L1) := by first | exact (rfl) | (unfold eIf; exact (rfl))
@[simp] theorem u_eAnd (f g : EF) env L : eAnd f g env L = ((tVal f env L).bind fun b L1 => if b then g env L1 else .ok (.d (.bool false)) L1) := by first | exact (rfl) | (unfold eAnd; exact (rfl))
@[simp] theorem u_eOr (f g : EF) env L : eOr f g env L = ((tVal f env L).bind fun b L1 => if b then .ok (.d (.bool true)) L1 else g env L1) := by first | exact (rfl) | (unfold eOr; exact (rfl))
@[simp] theorem u_eNot (f : EF) env L : eNot f env L = ((tVal f env L).bind fun b L1 => .ok (.d (.bool (!b))) L1) := by first | exact (rfl) | (unfold eNot; exact (rfl))
@[simp] theorem u_aNil x0 L : aNil x0 L = (.ok [] L) := by first | exact (rfl) | (unfold aNil; exact (rfl))
@[simp] theorem u_aCons (f : EF) (g : En → LH → Res (List Va)) env L : aCons f g env L = ((f env L).bind fun w L1 => (g env L1).bind fun ws L2 => .ok (w :: ws) L2) := by first | exact (rfl) | (unfold aCons; exact (rfl))
@[simp] theorem u_eDat (g : En → LH → Res Ob) env L : eDat g env L = ((g env L).bind fun o L1 => match o.va with
  | some w => .ok w L1
  | none => .stuck) := by first | exact (rfl) | (unfold eDat; exact (rfl))
@[simp] theorem u_eNew (g : En → LH → Res Ob) env L : eNew g env L = ((g env L).bind fun o L1 => .ok (.loc L1.length) (L1 ++ [some o])) := by first | exact (rfl) | (unfold eNew; exact (rfl))
@[simp] theorem u_opAdd w u L : opAdd w u L = (match w, u with
  | .d (.int i), .d (.int j) => .ok (.d (.int (i + j))) L
  | .d (.str a), .d (.str b) => if a.length + b.length ≤ sizeLine then .ok (.d (.str (a ++ b))) L else .stuck
  | .d (.tuple xs), .d (.tuple ys) => if xs.length + ys.length ≤ sizeLine then .ok (.d (.tuple (xs ++ ys))) L else .stuck
  | w, u => match w.items L, u.items L with
    | some ws, some us => if ws.length + us.length ≤ sizeLine then match datas ws, datas us with
      | some xs, some ys => .ok (.d (.list (xs ++ ys))) L
      | _, _ => .stuck
      else .stuck
    | _, _ => .stuck) := by first | exact (rfl) | (unfold opAdd; exact (rfl))
@[simp] theorem u_opI (g : Int → Int → Int) w u L : opI g w u L = (match w, u with
  | .d (.int i), .d (.int j) => .ok (.d (.int (g i j))) L
  | _, _ => .stuck) := by first | exact (rfl) | (unfold opI; exact (rfl))
@[simp] theorem u_opIC (C : Int → Int → Bool) (g : Int → Int → Int) w u L : opIC C g w u L = (match w, u with
  | .d (.int i), .d (.int j) => if C i j then .ok (.d (.int (g i j))) L else .stuck
  | _, _ => .stuck) := by first | exact (rfl) | (unfold opIC; exact (rfl))
@[simp] theorem u_opMul w u L : opMul w u L = (match w, u with
  | .d (.int i), .d (.int j) => if mulC i j then .ok (.d (.int (i * j))) L else .stuck
  | .d (.tuple xs), .d (.int k) => if xs ≠ [] ∧ 2 ≤ k ∧ k ≤ 1000 ∧ xs.length ≤ 1000 then .ok (.d (.tuple (rep k.toNat xs))) L else .stuck
  | w, .d (.int k) => match w.items L with
    | some ws => if -(2 ^ 63) ≤ k ∧ k < 2 ^ 63 ∧ ws.length * k.toNat ≤ sizeLine then match datas ws with
      | some xs => .ok (.d (.list (rep k.toNat xs))) L
      | none => .stuck
      else .stuck
    | none => .stuck
  | _, _ => .stuck) := by first | exact (rfl) | (unfold opMul; exact (rfl))
@[simp] theorem u_opC (g : Int → Int → Bool) w u L : opC g w u L = (match w, u with
  | .d (.int i), .d (.int j) => .ok (.d (.bool (g i j))) L
  | _, _ => .stuck) := by first | exact (rfl) | (unfold opC; exact (rfl))
@[simp] theorem u_opLt w u L : opLt w u L = (match w, u with
  | .d (.int i), .d (.int j) => .ok (.d (.bool (decide (i < j)))) L
  | .d (.tuple xs), .d (.tuple ys) => match intsOf xs, intsOf ys with
    | some ns, some ms => .ok (.d (.bool (HT.lexLt ns ms))) L
    | _, _ => .stuck
  | _, _ => .stuck) := by first | exact (rfl) | (unfold opLt; exact (rfl))
@[simp] theorem u_opEq w u L : opEq w u L = (match w.data L, u.data L with
  | some x, some y => if cmpOk x y then .ok (.d (.bool (PyData.eqv x y))) L else .stuck
  | _, _ => .stuck) := by first | exact (rfl) | (unfold opEq; exact (rfl))
@[simp] theorem u_opNe w u L : opNe w u L = (match w.data L, u.data L with
  | some x, some y => if cmpOk x y then .ok (.d (.bool (!PyData.eqv x y))) L else .stuck
  | _, _ => .stuck) := by first | exact (rfl) | (unfold opNe; exact (rfl))
@[simp] theorem u_opIsN w u L : opIsN w u L = (match u with
  | .d .none => .ok (.d (.bool w.isN)) L
  | _ => .stuck) := by first | exact (rfl) | (unfold opIsN; exact (rfl))
@[simp] theorem u_opNotN w u L : opNotN w u L = (match u with
  | .d .none => .ok (.d (.bool (!w.isN))) L
  | _ => .stuck) := by first | exact (rfl) | (unfold opNotN; exact (rfl))
@[simp] theorem u_opIsB w u L : opIsB w u L = (match w, u with
  | .d (.bool a), .d (.bool b) => .ok (.d (.bool (decide (a = b)))) L
  | _, _ => .stuck) := by first | exact (rfl) | (unfold opIsB; exact (rfl))
@[simp] theorem u_opNotB w u L : opNotB w u L = (match w, u with
  | .d (.bool a), .d (.bool b) => .ok (.d (.bool (!decide (a = b)))) L
  | _, _ => .stuck) := by first | exact (rfl) | (unfold opNotB; exact (rfl))
@[simp] theorem u_eTup (fs : En → LH → Res (List Va)) env L : eTup fs env L = ((fs env L).bind fun ws L1 => if ws.length ≤ sizeLine then .ok (mkTup ws) L1 else .stuck) := by first | exact (rfl) | (unfold eTup; exact (rfl))
@[simp] theorem u_fLst (fs : En → LH → Res (List Va)) env L : fLst fs env L = ((fs env L).bind fun ws L1 => if ws.length ≤ sizeLine then .ok (.lst ws) L1 else .stuck) := by first | exact (rfl) | (unfold fLst; exact (rfl))
@[simp] theorem u_aStar (f : EF) (g : En → LH → Res (List Va)) env L : aStar f g env L = ((f env L).bind fun w L1 => match w.seq L1 with
  | some us => (g env L1).bind fun ws L2 => .ok (us ++ ws) L2
  | none => .stuck) := by first | exact (rfl) | (unfold aStar; exact (rfl))
@[simp] theorem u_opIx w u L : opIx w u L = (match w.dget L u with
  | some (some x) => .ok x L
  | some none => .stuck
  | none => match u with
    | .d (.int i) => match w.seq L with
      | some ws => match atI ws i with
        | some x => .ok x L
        | none => .stuck
      | none => match w with
        | .d (.str z) => if z.length ≤ sizeLine then match atI z.cps.toList i with
          | some c => .ok (.d (.str ⟨#[c]⟩)) L
          | none => .stuck
          else .stuck
        | _ => .stuck
    | _ => .stuck) := by first | exact (rfl) | (unfold opIx; exact (rfl))
@[simp] theorem u_opSl (w : Va) (lo hi : Option Int) (L : LH) : opSl w lo hi L = match w with
  | .d (.tuple xs) => .ok (.d (.tuple (cutA xs lo hi))) L
  | .d (.str z) => if z.length ≤ sizeLine then .ok (.d (.str (cutS z lo hi))) L else .stuck
  | w => match w.items L with
    | some ws => match datas (cutA ws lo hi) with
      | some xs => .ok (.d (.list xs)) L
      | none => .stuck
    | none => .stuck := by unfold opSl; exact (rfl)
@[simp] theorem u_eSl (f : EF) (p q : En → LH → Res (Option Int)) env L : eSl f p q env L = ((f env L).bind fun w L1 => (p env L1).bind fun lo L2 => (q env L2).bind fun hi L3 => opSl w lo hi L3) := by first | exact (rfl) | (unfold eSl; exact (rfl))
@[simp] theorem u_fSl (f : EF) (p q : En → LH → Res (Option Int)) env L : fSl f p q env L = ((f env L).bind fun w L1 => (p env L1).bind fun lo L2 => (q env L2).bind fun hi L3 => match w.items L3 with
  | some ws => .ok (.lst (cutA ws lo hi)) L3
  | none => .stuck) := by first | exact (rfl) | (unfold fSl; exact (rfl))
@[simp] theorem u_fCat (f g : EF) env L : fCat f g env L = ((f env L).bind fun w L1 => (g env L1).bind fun u L2 => match w.items L2, u.items L2 with
  | some ws, some us => if ws.length + us.length ≤ sizeLine then .ok (.lst (ws ++ us)) L2 else .stuck
  | _, _ => .stuck) := by first | exact (rfl) | (unfold fCat; exact (rfl))
@[simp] theorem u_fRep (f g : EF) env L : fRep f g env L = ((f env L).bind fun w L1 => (g env L1).bind fun u L2 => match w.items L2, u with
  | some ws, .d (.int k) => if -(2 ^ 63) ≤ k ∧ k < 2 ^ 63 ∧ ws.length * k.toNat ≤ sizeLine then .ok (.lst (rep k.toNat ws)) L2 else .stuck
  | _, _ => .stuck) := by first | exact (rfl) | (unfold fRep; exact (rfl))
@[simp] theorem u_opIn (neg : Bool) w u L : opIn neg w u L = (match u.dget L w with
  | some o => .ok (.d (.bool (if neg then !o.isSome else o.isSome))) L
  | none => match u, w with
    | .d (.str z), .d (.str s) => match s.cps.toList with
      | [c] => .ok (.d (.bool (if neg then !decide (c ∈ z.cps.toList) else decide (c ∈ z.cps.toList)))) L
      | _ => .stuck
    | .d (.tuple ds), .d x => if flatD x && ds.all flatD then .ok (.d (.bool (if neg then !(ds.any fun z => PyData.eqv z x) else ds.any fun z => PyData.eqv z x))) L else .stuck
    | u, w => match u.data L, w.data L with
      | some (.list ds), some x => if SeqAt.shaped x && SeqAt.shaped (.list ds) then .ok (.d (.bool (if neg then !(ds.any fun z => PyData.eqv z x) else ds.any fun z => PyData.eqv z x))) L else .stuck
      | _, _ => .stuck) := by first | exact (rfl) | (unfold opIn; exact (rfl))
@[simp] theorem u_pNone x0 L : pNone x0 L = (.ok none L) := by first | exact (rfl) | (unfold pNone; exact (rfl))
@[simp] theorem u_pSome (f : EF) env L : pSome f env L = ((f env L).bind fun w L1 => match w with
  | .d (.int i) => .ok (some i) L1
  | _ => .stuck) := by first | exact (rfl) | (unfold pSome; exact (rfl))
@[simp] theorem u_eCallB (g : List Va → LH → Res Va) (fs : En → LH → Res (List Va)) env L : eCallB g fs env L = ((fs env L).bind g) := by first | exact (rfl) | (unfold eCallB; exact (rfl))
@[simp] theorem u_fCallB (g : List Va → LH → Res Ob) (fs : En → LH → Res (List Va)) env L : fCallB g fs env L = ((fs env L).bind g) := by first | exact (rfl) | (unfold fCallB; exact (rfl))
@[simp] theorem u_cLen ws L : cLen ws L = (match ws with
  | [w] => match w with
    | .d (.str z) => if z.length ≤ sizeLine then .ok (.d (.int z.length)) L else .stuck
    | .dct ks => .ok (.d (.int ks.length)) L
    | w => match w.seq L with
      | some us => .ok (.d (.int us.length)) L
      | none => match w with
        | .loc n => match L[n]? with
          | some (some (.di ks)) => .ok (.d (.int ks.length)) L
          | _ => .stuck
        | _ => .stuck
  | _ => .stuck) := by first | exact (rfl) | (unfold cLen; exact (rfl))
@[simp] theorem u_eIsi (T : String) (f : EF) env L : eIsi T f env L = ((f env L).bind fun w L1 => match w.kind L1 with
  | some k => .ok (.d (.bool (isKind k T))) L1
  | none => .stuck) := by first | exact (rfl) | (unfold eIsi; exact (rfl))
@[simp] theorem u_cMin2 ws L : cMin2 ws L = (match ws with
  | [.d (.int i), .d (.int j)] => .ok (.d (.int (if j < i then j else i))) L
  | _ => .stuck) := by first | exact (rfl) | (unfold cMin2; exact (rfl))
@[simp] theorem u_cMax2 ws L : cMax2 ws L = (match ws with
  | [.d (.int i), .d (.int j)] => .ok (.d (.int (if j > i then j else i))) L
  | _ => .stuck) := by first | exact (rfl) | (unfold cMax2; exact (rfl))
@[simp] theorem u_cInt ws L : cInt ws L = (match ws with
  | [.d (.int i)] => .ok (.d (.int i)) L
  | [.d (.bool b)] => .ok (.d (.int (if b then 1 else 0))) L
  | _ => .stuck) := by first | exact (rfl) | (unfold cInt; exact (rfl))
@[simp] theorem u_cStr ws L : cStr ws L = (match ws with
  | [.d (.int i)] => if i.natAbs.log2 < 1920 then .ok (.d (.str (toString i))) L else .stuck
  | _ => .stuck) := by first | exact (rfl) | (unfold cStr; exact (rfl))
@[simp] theorem u_cList ws L : cList ws L = (match ws with
  | [w] => match w.seq L with
    | some us => .ok (.lst us) L
    | none => .stuck
  | _ => .stuck) := by first | exact (rfl) | (unfold cList; exact (rfl))
@[simp] theorem u_cTuple ws L : cTuple ws L = (match ws with
  | [.d (.tuple xs)] => .ok (.d (.tuple xs)) L
  | [w] => match w.items L with
    | some us => .ok (mkTup us) L
    | none => .stuck
  | _ => .stuck) := by first | exact (rfl) | (unfold cTuple; exact (rfl))
@[simp] theorem u_sNil env L : sNil env L = (.nx env L) := by first | exact (rfl) | (unfold sNil; exact (rfl))
@[simp] theorem u_sSeq (f g : SFn) env L : sSeq f g env L = (match f env L with
  | .nx env1 L1 => g env1 L1
  | o => o) := by first | exact (rfl) | (unfold sSeq; exact (rfl))
@[simp] theorem u_sPass : sPass  = sNil := by unfold sPass; exact (rfl)
@[simp] theorem u_sBreak env L : sBreak env L = (.bk env L) := by first | exact (rfl) | (unfold sBreak; exact (rfl))
@[simp] theorem u_sCont env L : sCont env L = (.ct env L) := by first | exact (rfl) | (unfold sCont; exact (rfl))
@[simp] theorem u_sExpr (f : EF) env L : sExpr f env L = ((f env L).then env fun _ L1 => .nx env L1) := by first | exact (rfl) | (unfold sExpr; exact (rfl))
@[simp] theorem u_sRet (f : EF) env L : sRet f env L = ((f env L).then env fun w L1 => .rt w L1) := by first | exact (rfl) | (unfold sRet; exact (rfl))
@[simp] theorem u_sRetN x0 L : sRetN x0 L = (.rt (.d .none) L) := by first | exact (rfl) | (unfold sRetN; exact (rfl))
@[simp] theorem u_sRetF (g : En → LH → Res Ob) env L : sRetF g env L = ((g env L).then env fun o L1 => .rf o L1) := by first | exact (rfl) | (unfold sRetF; exact (rfl))
@[simp] theorem u_sIf (t : En → LH → Res Bool) (f g : SFn) env L : sIf t f g env L = ((t env L).then env fun b L1 => if b then f env L1 else g env L1) := by first | exact (rfl) | (unfold sIf; exact (rfl))
@[simp] theorem u_sSet (i : Nat) (f : EF) env L : sSet i f env L = ((f env L).then env fun w L1 => .nx (env.set i (some w)) L1) := by first | exact (rfl) | (unfold sSet; exact (rfl))
@[simp] theorem u_sAug (i : Nat) (g : Int → Int → Int) (f : EF) env L : sAug i g f env L = (match env[i]? with
  | some (some (.d (.int a))) => (f env L).then env fun w L1 => match w with
    | .d (.int b) => .nx (env.set i (some (.d (.int (g a b))))) L1
    | _ => .stuck
  | _ => .stuck) := by first | exact (rfl) | (unfold sAug; exact (rfl))
@[simp] theorem u_tN (i : Nat) w env L : tN i w env L = (.ok (env.set i (some w)) L) := by first | exact (rfl) | (unfold tN; exact (rfl))
@[simp] theorem u_tgNil ws env L : tgNil ws env L = (match ws with
  | [] => .ok env L
  | _ => .stuck) := by first | exact (rfl) | (unfold tgNil; exact (rfl))
@[simp] theorem u_tgCons (f : Va → En → LH → Res En) (g : List Va → En → LH → Res En) ws env L : tgCons f g ws env L = (match ws with
  | w :: r => (f w env L).bind fun env1 L1 => g r env1 L1
  | [] => .stuck) := by first | exact (rfl) | (unfold tgCons; exact (rfl))
@[simp] theorem u_tTupT (n : Nat) (g : List Va → En → LH → Res En) w env L : tTupT n g w env L = (match w.seq L with
  | some ws => if ws.length = n then g ws env L else .stuck
  | none => .stuck) := by first | exact (rfl) | (unfold tTupT; exact (rfl))
@[simp] theorem u_sAsg (f : EF) (g : Va → En → LH → Res En) env L : sAsg f g env L = ((f env L).then env fun w L1 => match g w env L1 with
  | .ok env1 L2 => .nx env1 L2
  | _ => .stuck) := by first | exact (rfl) | (unfold sAsg; exact (rfl))
@[simp] theorem u_sPar (i j : Nat) (fs : En → LH → Res (List Va)) env L : sPar i j fs env L = ((fs env L).then env fun ws L1 => match ws with
  | [w, u] => .nx ((env.set i (some w)).set j (some u)) L1
  | _ => .stuck) := by first | exact (rfl) | (unfold sPar; exact (rfl))
@[simp] theorem u_sPar3 (i j k : Nat) (fs : En → LH → Res (List Va)) env L : sPar3 i j k fs env L = ((fs env L).then env fun ws L1 => match ws with
  | [w, u, z] => .nx (((env.set i (some w)).set j (some u)).set k (some z)) L1
  | _ => .stuck) := by first | exact (rfl) | (unfold sPar3; exact (rfl))
@[simp] theorem u_tIx (f g : EF) v env L : tIx f g v env L = ((f env L).bind fun w L1 => (g env L1).bind fun u L2 => match w with
  | .loc n => match L2[n]?, u with
    | some (some (.lst ws)), .d (.int i) => match ixN ws.length i with
      | some j => .ok env (L2.set n (some (.lst (ws.set j v))))
      | none => .stuck
    | some (some (.di ks)), .d (.int i) => if ks.length < sizeLine then .ok env (L2.set n (some (.di (aput ks i v)))) else .stuck
    | some (some (.di [])), .d (.tuple xs) => match intsOf xs with
      | some ns => .ok env (L2.set n (some (.dt [(ns, v)])))
      | none => .stuck
    | some (some (.dt ks)), .d (.tuple xs) => match intsOf xs with
      | some ns => if ks.length < sizeLine then .ok env (L2.set n (some (.dt (aput ks ns v)))) else .stuck
      | none => .stuck
    | _, _ => .stuck
  | _ => .stuck) := by first | exact (rfl) | (unfold tIx; exact (rfl))
@[simp] theorem u_srcV (f : EF) env L : srcV f env L = ((f env L).bind fun w L1 => match srcOf w L1 with
  | some p => .ok p L1
  | none => .stuck) := by first | exact (rfl) | (unfold srcV; exact (rfl))
@[simp] theorem u_srcR1 (fs : En → LH → Res (List Va)) env L : srcR1 fs env L = ((fs env L).bind fun ws L1 => match ws with
  | [.d (.int j)] => if -(2 ^ 62) ≤ j ∧ j < 2 ^ 62 then .ok (rngV 0 j.toNat, none) L1 else .stuck
  | _ => .stuck) := by first | exact (rfl) | (unfold srcR1; exact (rfl))
@[simp] theorem u_srcR2 (fs : En → LH → Res (List Va)) env L : srcR2 fs env L = ((fs env L).bind fun ws L1 => match ws with
  | [.d (.int i), .d (.int j)] => if -(2 ^ 62) ≤ i ∧ i < 2 ^ 62 ∧ -(2 ^ 62) ≤ j ∧ j < 2 ^ 62 then .ok (rngV i (j - i).toNat, none) L1 else .stuck
  | _ => .stuck) := by first | exact (rfl) | (unfold srcR2; exact (rfl))
@[simp] theorem u_eCall (F : Fn) (fs : En → LH → Res (List Va)) env L : eCall F fs env L = ((fs env L).bind F) := by first | exact (rfl) | (unfold eCall; exact (rfl))
@[simp] theorem u_fCall (F : FnF) (fs : En → LH → Res (List Va)) env L : fCall F fs env L = ((fs env L).bind F) := by first | exact (rfl) | (unfold fCall; exact (rfl))
@[simp] theorem u_eMeth (chk : LH → Va → Bool) (g : Va → List Va → LH → Res Va) (fo : EF) (fs : En → LH → Res (List Va)) env L : eMeth chk g fo fs env L = ((fo env L).bind fun w L1 => if chk L1 w then (fs env L1).bind fun ws L2 => g w ws L2 else .stuck) := by first | exact (rfl) | (unfold eMeth; exact (rfl))
@[simp] theorem u_mAppend w ws L : mAppend w ws L = (match w, ws with
  | .loc n, [v] => match L[n]? with
    | some (some (.lst us)) => if us.length < sizeLine then .ok (.d .none) (L.set n (some (.lst (us ++ [v])))) else .stuck
    | _ => .stuck
  | _, _ => .stuck) := by first | exact (rfl) | (unfold mAppend; exact (rfl))
@[simp] theorem u_mInsert w ws L : mInsert w ws L = (match w, ws with
  | .loc n, [.d (.int i), v] => match L[n]? with
    | some (some (.lst us)) => if us.length < sizeLine ∧ 0 ≤ i ∧ i < 2 ^ 63 then .ok (.d .none) (L.set n (some (.lst (us.take i.toNat ++ [v] ++ us.drop i.toNat)))) else .stuck
    | _ => .stuck
  | _, _ => .stuck) := by first | exact (rfl) | (unfold mInsert; exact (rfl))
@[simp] theorem u_mPop0 w ws L : mPop0 w ws L = (match w, ws with
  | .loc n, [] => match L[n]? with
    | some (some (.lst us)) => match us[us.length - 1]? with
      | some u => .ok u (L.set n (some (.lst us.dropLast)))
      | none => .stuck
    | _ => .stuck
  | _, _ => .stuck) := by first | exact (rfl) | (unfold mPop0; exact (rfl))
@[simp] theorem u_eNeg (f : EF) env L : eNeg f env L = ((f env L).bind fun w L1 => match w with
  | .d (.int i) => .ok (.d (.int (-i))) L1
  | _ => .stuck) := by first | exact (rfl) | (unfold eNeg; exact (rfl))
open Classical in
@[simp] theorem u_cRepr ws L : cRepr ws L = (match ws with
  | [w] => match w.data L with
    | some x => if okShow x then .ok (.d (.str x.shown)) L else .stuck
    | none => .stuck
  | _ => .stuck) := by first | exact (rfl) | (unfold cRepr; exact (rfl))
@[simp] theorem u_eRev (f : EF) env L : eRev f env L = ((f env L).bind fun w L1 => match w.data L1 with
  | some (.list xs) => .ok (.d (.list xs.reverse)) L1
  | some (.tuple xs) => .ok (.d (.tuple xs.reverse)) L1
  | _ => .stuck) := by first | exact (rfl) | (unfold eRev; exact (rfl))
@[simp] theorem u_isLs L w : isLs L w = (match w with
  | .d (.list _) => true
  | .loc n => match L[n]? with
    | some (some (.lst _)) => true
    | _ => false
  | _ => false) := by first | exact (rfl) | (unfold isLs; exact (rfl))
@[simp] theorem u_tTrue x0 L : tTrue x0 L = (.ok true L) := by first | exact (rfl) | (unfold tTrue; exact (rfl))
end L2.HW
namespace L2.HW
open PySem PySem.Spec PyProof.Rows
noncomputable def b_l_mixed : SFn :=
  (sSeq (sSet 2 (eOp opMod (eCallB cInt (aCons (eOp opAdd (eOp opAdd (eOp opMul (eOp opMod (eCallB cInt (aCons (eVar 0) aNil)) (eC (.int 2147483647))) (eC (.int 48271))) (eOp opMul (eVar 1) (eC (.int 69621)))) (eC (.int 1048583))) aNil)) (eC (.int 2147483629))))
  (sSeq (sSet 2 (eOp opMod (eCallB cInt (aCons (eOp opMul (eVar 2) (eVar 2)) aNil)) (eC (.int 2147483587))))
  (sRet (eOp opMod (eCallB cInt (aCons (eOp opMul (eVar 2) (eOp opAdd (eVar 2) (eC (.int 2)))) aNil)) (eC (.int 2147483579))))))
noncomputable def F_l_mixed : Fn := mkFn 2 3 b_l_mixed
noncomputable def b_l_pile_1 : SFn :=
  (sSet 3 (eOp opAdd (eOp opMul (eVar 3) (eC (.int 2147483579))) (eCall F_l_mixed (aCons (eVar 2) (aCons (eOp opAdd (eOp opAdd (eOp opMul (eC (.int 7)) (eVar 1)) (eOp opMul (eC (.int 100)) (eVar 4))) (eOp opMul (eVar 4) (eVar 4))) aNil)))))
noncomputable def b_l_pile : SFn :=
  (sSeq (sSet 2 (eC (.int 0)))
  (sSeq (sIf (tVal (eOp opLt (eVar 1) (eCallB cLen (aCons (eVar 0) aNil)))) (sSet 2 (eOp opIx (eVar 0) (eVar 1))) sNil)
  (sSeq (sIf (tVal (eOp opGe (eVar 2) (eOp opPow (eC (.int 10)) (eC (.int 18))))) (sRetF (fLst (aCons (eOp opMod (eCallB cInt (aCons (eOp opSub (eVar 2) (eOp opPow (eC (.int 10)) (eC (.int 18)))) aNil)) (eOp opMul (eOp opMul (eOp opMul (eOp opPow (eC (.int 10)) (eC (.int 60))) (eOp opPow (eC (.int 10)) (eC (.int 60)))) (eOp opPow (eC (.int 10)) (eC (.int 60)))) (eOp opPow (eC (.int 10)) (eC (.int 60))))) aNil))) sNil)
  (sSeq (sSet 3 (eC (.int 0)))
  (sSeq (sFor (srcR1 (aCons (eC (.int 24)) aNil)) (tN 4) b_l_pile_1)
  (sRetF (fLst (aCons (eVar 3) aNil))))))))
noncomputable def F_l_pile : FnF := mkFnF 2 5 b_l_pile
noncomputable def b_l_take : SFn :=
  (sSeq (sSet 2 (eOp opMod (eCallB cInt (aCons (eOp opIx (eVar 0) (eC (.int 0))) aNil)) (eVar 1)))
  (sSeq (sAsg (eOp opDiv (eOp opIx (eVar 0) (eC (.int 0))) (eVar 1)) (tIx (eVar 0) (eC (.int 0))))
  (sRet (eVar 2))))
noncomputable def F_l_take : Fn := mkFn 2 3 b_l_take
noncomputable def b_l_roads_1 : SFn :=
  (sSeq (sSet 6 (eCall F_l_take (aCons (eVar 0) (aCons (eOp opSub (eVar 1) (eC (.int 1))) aNil))))
  (sSeq (sIf (tVal (eOp opGe (eVar 6) (eVar 2))) (sSet 6 (eOp opAdd (eVar 6) (eC (.int 1)))) sNil)
  (sSeq (sSet 7 (eCall F_l_take (aCons (eVar 0) (aCons (eOp opSub (eVar 1) (eC (.int 1))) aNil))))
  (sSeq (sIf (tVal (eOp opGe (eVar 7) (eVar 6))) (sSet 7 (eOp opAdd (eVar 7) (eC (.int 1)))) sNil)
  (sExpr (eMeth isLs mAppend (eVar 4) (aCons (eTup (aCons (eVar 6) (aCons (eVar 7) (aCons (eOp opAdd (eC (.int 1)) (eOp opIx (eDat (fLst (aCons (eC (.int 0)) (aCons (eC (.int 0)) (aCons (eC (.int 1)) (aCons (eC (.int 2)) (aCons (eC (.int 4)) aNil))))))) (eCall F_l_take (aCons (eVar 0) (aCons (eC (.int 5)) aNil))))) (aCons (eOp opAdd (eC (.int 1)) (eCall F_l_take (aCons (eVar 0) (aCons (eC (.int 3)) aNil)))) aNil))))) aNil)))))))
noncomputable def b_l_roads : SFn :=
  (sSeq (sSet 4 (eNew (fLst aNil)))
  (sSeq (sFor (srcR1 (aCons (eVar 3) aNil)) (tN 5) b_l_roads_1)
  (sRet (eCallB cTuple (aCons (eVar 4) aNil)))))
noncomputable def F_l_roads : Fn := mkFn 4 8 b_l_roads
noncomputable def b_l_web : SFn :=
  (sSeq (sSet 2 (eOp opAdd (eC (.int 2)) (eCall F_l_take (aCons (eVar 0) (aCons (eOp opSub (eVar 1) (eC (.int 1))) aNil)))))
  (sSeq (sSet 3 (eCall F_l_take (aCons (eVar 0) (aCons (eVar 2) aNil))))
  (sSeq (sSet 4 (eOp opMod (eCallB cInt (aCons (eOp opAdd (eOp opAdd (eVar 3) (eC (.int 1))) (eCall F_l_take (aCons (eVar 0) (aCons (eOp opSub (eVar 2) (eC (.int 1))) aNil)))) aNil)) (eVar 2)))
  (sRet (eTup (aCons (eVar 2) (aCons (eVar 4) (aCons (eVar 3) (aCons (eCall F_l_roads (aCons (eVar 0) (aCons (eVar 2) (aCons (eVar 3) (aCons (eCall F_l_take (aCons (eVar 0) (aCons (eOp opAdd (eOp opMul (eC (.int 2)) (eVar 2)) (eC (.int 2))) aNil))) aNil))))) aNil)))))))))
noncomputable def F_l_web : Fn := mkFn 2 5 b_l_web
noncomputable def b_is_whole : SFn :=
  (sRet (eAnd (eIsi "int" (eVar 0)) (eAnd (eNot (eIsi "bool" (eVar 0))) (eOp opGe (eVar 0) (eC (.int 0))))))
noncomputable def F_is_whole : Fn := mkFn 1 1 b_is_whole
noncomputable def b_is_place : SFn :=
  (sRet (eAnd (eCall F_is_whole (aCons (eVar 1) aNil)) (eOp opLt (eVar 1) (eVar 0))))
noncomputable def F_is_place : Fn := mkFn 2 2 b_is_place
noncomputable def b_is_more : SFn :=
  (sRet (eAnd (eCall F_is_whole (aCons (eVar 0) aNil)) (eOp opGt (eVar 0) (eC (.int 0)))))
noncomputable def F_is_more : Fn := mkFn 1 1 b_is_more
noncomputable def b_is_road : SFn :=
  (sSeq (sIf (tOrF (tNotF (tVal (eIsi "tuple" (eVar 2)))) (tVal (eOp opNe (eCallB cLen (aCons (eVar 2) aNil)) (eC (.int 4))))) (sRet (eC (.bool false))) sNil)
  (sSeq (sAsg (eVar 2) (tTupT 4 (tgCons (tN 3) (tgCons (tN 4) (tgCons (tN 5) (tgCons (tN 6) tgNil))))))
  (sSeq (sIf (tOrF (tNotF (tVal (eCall F_is_place (aCons (eVar 0) (aCons (eVar 3) aNil))))) (tOrF (tNotF (tVal (eCall F_is_place (aCons (eVar 0) (aCons (eVar 4) aNil))))) (tOrF (tVal (eOp opEq (eVar 3) (eVar 4))) (tVal (eOp opEq (eVar 3) (eVar 1)))))) (sRet (eC (.bool false))) sNil)
  (sRet (eAnd (eCall F_is_more (aCons (eVar 5) aNil)) (eCall F_is_more (aCons (eVar 6) aNil)))))))
noncomputable def F_is_road : Fn := mkFn 3 7 b_is_road
noncomputable def b_is_right_web : SFn :=
  (sSeq (sIf (tOrF (tNotF (tVal (eIsi "tuple" (eVar 0)))) (tOrF (tVal (eOp opNe (eCallB cLen (aCons (eVar 0) aNil)) (eC (.int 4)))) (tOrF (tNotF (tVal (eCall F_is_whole (aCons (eOp opIx (eVar 0) (eC (.int 0))) aNil)))) (tVal (eOp opLt (eOp opIx (eVar 0) (eC (.int 0))) (eC (.int 2))))))) (sRet (eC (.bool false))) sNil)
  (sSeq (sAsg (eVar 0) (tTupT 4 (tgCons (tN 1) (tgCons (tN 2) (tgCons (tN 3) (tgCons (tN 4) tgNil))))))
  (sSeq (sIf (tOrF (tNotF (tVal (eCall F_is_place (aCons (eVar 1) (aCons (eVar 2) aNil))))) (tOrF (tNotF (tVal (eCall F_is_place (aCons (eVar 1) (aCons (eVar 3) aNil))))) (tOrF (tVal (eOp opEq (eVar 2) (eVar 3))) (tNotF (tVal (eIsi "tuple" (eVar 4))))))) (sRet (eC (.bool false))) sNil)
  (sRet (eCallB cAll (aCons (eDat (fComp (srcV (eVar 4)) (tN 5) tTrue (eCall F_is_road (aCons (eVar 1) (aCons (eVar 3) (aCons (eVar 5) aNil)))) [5])) aNil))))))
noncomputable def F_is_right_web : Fn := mkFn 1 6 b_is_right_web
noncomputable def b_is_web : SFn :=
  (sRet (eCall F_is_right_web (aCons (eVar 0) aNil)))
noncomputable def F_is_web : Fn := mkFn 1 1 b_is_web
noncomputable def b_l_whole : SFn :=
  (sRet (eAnd (eIsi "int" (eVar 0)) (eNot (eIsi "bool" (eVar 0)))))
noncomputable def F_l_whole : Fn := mkFn 1 1 b_l_whole
noncomputable def b_l_is_from : SFn :=
  (sRet (eAnd (eCall F_l_whole (aCons (eVar 0) aNil)) (eOp opGe (eVar 0) (eVar 1))))
noncomputable def F_l_is_from : Fn := mkFn 2 2 b_l_is_from
noncomputable def b_l_is_place : SFn :=
  (sRet (eAnd (eCall F_l_is_from (aCons (eVar 1) (aCons (eC (.int 0)) aNil))) (eOp opLt (eVar 1) (eVar 0))))
noncomputable def F_l_is_place : Fn := mkFn 2 2 b_l_is_place
noncomputable def b_l_is_road : SFn :=
  (sSeq (sIf (tOrF (tNotF (tVal (eIsi "tuple" (eVar 2)))) (tVal (eOp opNe (eCallB cLen (aCons (eVar 2) aNil)) (eC (.int 4))))) (sRet (eC (.bool false))) sNil)
  (sSeq (sAsg (eVar 2) (tTupT 4 (tgCons (tN 3) (tgCons (tN 4) (tgCons (tN 5) (tgCons (tN 6) tgNil))))))
  (sSeq (sIf (tOrF (tNotF (tVal (eCall F_l_is_place (aCons (eVar 0) (aCons (eVar 3) aNil))))) (tOrF (tNotF (tVal (eCall F_l_is_place (aCons (eVar 0) (aCons (eVar 4) aNil))))) (tOrF (tVal (eOp opEq (eVar 3) (eVar 4))) (tVal (eOp opEq (eVar 3) (eVar 1)))))) (sRet (eC (.bool false))) sNil)
  (sRet (eAnd (eCall F_l_is_from (aCons (eVar 5) (aCons (eC (.int 1)) aNil))) (eCall F_l_is_from (aCons (eVar 6) (aCons (eC (.int 1)) aNil))))))))
noncomputable def F_l_is_road : Fn := mkFn 3 7 b_l_is_road
noncomputable def b_l_is_web : SFn :=
  (sSeq (sIf (tOrF (tNotF (tVal (eIsi "tuple" (eVar 0)))) (tOrF (tVal (eOp opNe (eCallB cLen (aCons (eVar 0) aNil)) (eC (.int 4)))) (tNotF (tVal (eCall F_l_is_from (aCons (eOp opIx (eVar 0) (eC (.int 0))) (aCons (eC (.int 2)) aNil))))))) (sRet (eC (.bool false))) sNil)
  (sSeq (sAsg (eVar 0) (tTupT 4 (tgCons (tN 1) (tgCons (tN 2) (tgCons (tN 3) (tgCons (tN 4) tgNil))))))
  (sSeq (sIf (tOrF (tNotF (tVal (eCall F_l_is_place (aCons (eVar 1) (aCons (eVar 2) aNil))))) (tOrF (tNotF (tVal (eCall F_l_is_place (aCons (eVar 1) (aCons (eVar 3) aNil))))) (tOrF (tVal (eOp opEq (eVar 2) (eVar 3))) (tNotF (tVal (eIsi "tuple" (eVar 4))))))) (sRet (eC (.bool false))) sNil)
  (sRet (eOp opEq (eDat (fComp (srcV (eVar 4)) (tN 5) (tNotF (tVal (eCall F_l_is_road (aCons (eVar 1) (aCons (eVar 3) (aCons (eVar 5) aNil)))))) (eVar 5) [5])) (eDat (fLst aNil)))))))
noncomputable def F_l_is_web : Fn := mkFn 1 6 b_l_is_web
noncomputable def b_l_good : SFn :=
  (sSeq (sSet 1 (eCallB cRepr (aCons (eVar 0) aNil)))
  (sSeq (sSet 2 (eCall F_is_web (aCons (eVar 0) aNil)))
  (sRet (eAnd (eIsi "bool" (eVar 2)) (eAnd (eOp opEq (eVar 2) (eCall F_l_is_web (aCons (eVar 0) aNil))) (eOp opEq (eCallB cRepr (aCons (eVar 0) aNil)) (eVar 1)))))))
noncomputable def F_l_good : Fn := mkFn 1 3 b_l_good
noncomputable def b_l_bent (self : Fn) : SFn :=
  (sSeq (sSet 3 (eOp opIx (eDat (fLst (aCons (eC .none) (aCons (eC (.bool true)) (aCons (eC (.bool false)) (aCons (eC (.int 0)) (aCons (eC (.int 1)) (aCons (eNeg (eC (.int 1))) (aCons (eC (.int 2)) (aCons (eC (.int 9)) (aCons (eC (.str "")) (aCons (eC (.str "a")) (aCons (eTup aNil) (aCons (eDat (fLst aNil)) (aCons (eTup (aCons (eC (.int 0)) (aCons (eC (.int 1)) aNil))) (aCons (eTup (aCons (eC (.int 0)) (aCons (eC (.int 1)) (aCons (eC (.int 1)) (aCons (eC (.int 1)) aNil))))) aNil)))))))))))))))) (eCall F_l_take (aCons (eVar 0) (aCons (eC (.int 14)) aNil)))))
  (sSeq (sIf (tOrF (tNotF (tVal (eIsi "tuple" (eVar 1)))) (tOrF (tVal (eOp opEq (eVar 1) (eTup aNil))) (tOrF (tVal (eOp opEq (eVar 2) (eC (.int 0)))) (tVal (eOp opEq (eCall F_l_take (aCons (eVar 0) (aCons (eC (.int 6)) aNil))) (eC (.int 0))))))) (sRet (eOp opIx (eDat (fLst (aCons (eVar 3) (aCons (eVar 3) (aCons (eDat (fLst (aCons (eVar 1) aNil))) aNil))))) (eCall F_l_take (aCons (eVar 0) (aCons (eC (.int 3)) aNil))))) sNil)
  (sSeq (sSet 4 (eCall F_l_take (aCons (eVar 0) (aCons (eCallB cLen (aCons (eVar 1) aNil)) aNil))))
  (sSeq (sSet 5 (eCall F_l_take (aCons (eVar 0) (aCons (eC (.int 8)) aNil))))
  (sSeq (sIf (tVal (eOp opEq (eVar 5) (eC (.int 0)))) (sRet (eOp opAdd (eSl (eVar 1) pNone (pSome (eVar 4))) (eSl (eVar 1) (pSome (eOp opAdd (eVar 4) (eC (.int 1)))) pNone))) sNil)
  (sSeq (sIf (tVal (eOp opEq (eVar 5) (eC (.int 1)))) (sRet (eOp opAdd (eOp opAdd (eSl (eVar 1) pNone (pSome (eVar 4))) (eTup (aCons (eVar 3) aNil))) (eSl (eVar 1) (pSome (eVar 4)) pNone))) sNil)
  (sSeq (sIf (tVal (eOp opEq (eVar 5) (eC (.int 2)))) (sRet (eRev (eVar 1))) sNil)
  (sRet (eOp opAdd (eOp opAdd (eSl (eVar 1) pNone (pSome (eVar 4))) (eTup (aCons (eCall self (aCons (eVar 0) (aCons (eOp opIx (eVar 1) (eVar 4)) (aCons (eOp opSub (eVar 2) (eC (.int 1))) aNil)))) aNil))) (eSl (eVar 1) (pSome (eOp opAdd (eVar 4) (eC (.int 1)))) pNone))))))))))
noncomputable def F_l_bent : Nat → Fn
  | 0 => noF
  | k + 1 => mkFn 3 6 (b_l_bent (F_l_bent k))
noncomputable def b_l_bad_webs_1 : SFn :=
  (sExpr (eMeth isLs mAppend (eVar 1) (aCons (eTup (aCons (eVar 2) (aCons (eC (.int 0)) (aCons (eC (.int 1)) (aCons (eTup aNil) aNil))))) aNil)))
noncomputable def b_l_bad_webs_2 : SFn :=
  (sSet 1 (eNew (fCat (eVar 1) (eDat (fLst (aCons (eTup (aCons (eC (.int 2)) (aCons (eVar 3) (aCons (eC (.int 0)) (aCons (eTup aNil) aNil))))) (aCons (eTup (aCons (eC (.int 2)) (aCons (eC (.int 0)) (aCons (eVar 3) (aCons (eTup aNil) aNil))))) aNil)))))))
noncomputable def b_l_bad_webs_3 : SFn :=
  (sSeq (sSet 1 (eNew (fCat (eVar 1) (eDat (fLst (aCons (eTup (aCons (eC (.int 2)) (aCons (eC (.int 0)) (aCons (eC (.int 1)) (aCons (eTup (aCons (eVar 3) aNil)) aNil))))) (aCons (eTup (aCons (eC (.int 2)) (aCons (eC (.int 0)) (aCons (eC (.int 1)) (aCons (eTup (aCons (eVar 0) (aCons (eVar 3) aNil))) aNil))))) (aCons (eTup (aCons (eC (.int 2)) (aCons (eC (.int 0)) (aCons (eC (.int 1)) (aCons (eTup (aCons (eVar 3) (aCons (eVar 0) aNil))) aNil))))) aNil))))))))
  (sExpr (eMeth isLs mAppend (eVar 1) (aCons (eTup (aCons (eC (.int 2)) (aCons (eC (.int 0)) (aCons (eC (.int 1)) (aCons (eTup (aCons (eVar 0) (aCons (eVar 3) (aCons (eVar 0) aNil)))) aNil))))) aNil))))
noncomputable def b_l_bad_webs : SFn :=
  (sSeq (sSet 0 (eTup (aCons (eC (.int 0)) (aCons (eC (.int 1)) (aCons (eC (.int 1)) (aCons (eC (.int 1)) aNil))))))
  (sSeq (sSet 1 (eNew (fLst (aCons (eC .none) (aCons (eC (.int 0)) (aCons (eC (.bool true)) (aCons (eC (.str "")) (aCons (eTup aNil) (aCons (eDat (fLst aNil)) (aCons (eTup (aCons (eC (.int 2)) (aCons (eC (.int 0)) (aCons (eC (.int 1)) aNil)))) (aCons (eTup (aCons (eC (.int 2)) (aCons (eC (.int 0)) (aCons (eC (.int 1)) (aCons (eTup aNil) (aCons (eTup aNil) aNil)))))) (aCons (eDat (fLst (aCons (eC (.int 2)) (aCons (eC (.int 0)) (aCons (eC (.int 1)) (aCons (eTup aNil) aNil)))))) (aCons (eTup (aCons (eC (.int 2)) (aCons (eC (.int 0)) (aCons (eC (.int 1)) (aCons (eDat (fLst aNil)) aNil))))) (aCons (eTup (aCons (eC (.int 2)) (aCons (eC (.int 0)) (aCons (eC (.int 1)) (aCons (eC .none) aNil))))) aNil))))))))))))))
  (sSeq (sFor (srcV (eDat (fLst (aCons (eC (.int 1)) (aCons (eC (.int 0)) (aCons (eNeg (eC (.int 1))) (aCons (eC (.bool true)) (aCons (eC .none) (aCons (eC (.str "2")) (aCons (eTup (aCons (eC (.int 2)) aNil)) aNil)))))))))) (tN 2) b_l_bad_webs_1)
  (sSeq (sFor (srcV (eDat (fLst (aCons (eC (.int 2)) (aCons (eNeg (eC (.int 1))) (aCons (eC (.bool true)) (aCons (eC .none) (aCons (eC (.str "1")) (aCons (eTup (aCons (eC (.int 1)) aNil)) aNil))))))))) (tN 3) b_l_bad_webs_2)
  (sSeq (sSet 1 (eNew (fCat (eVar 1) (eDat (fLst (aCons (eTup (aCons (eC (.int 2)) (aCons (eC (.int 0)) (aCons (eC (.int 0)) (aCons (eTup aNil) aNil))))) (aCons (eTup (aCons (eC (.int 2)) (aCons (eC (.int 1)) (aCons (eC (.int 1)) (aCons (eTup (aCons (eVar 0) aNil)) aNil))))) (aCons (eTup (aCons (eC (.int 3)) (aCons (eC (.bool false)) (aCons (eC (.int 1)) (aCons (eTup aNil) aNil))))) (aCons (eTup (aCons (eC (.int 3)) (aCons (eC (.int 2)) (aCons (eC (.bool false)) (aCons (eTup aNil) aNil))))) aNil)))))))))
  (sSeq (sSet 4 (eDat (fLst (aCons (eC .none) (aCons (eTup aNil) (aCons (eTup (aCons (eC (.int 0)) (aCons (eC (.int 1)) (aCons (eC (.int 1)) aNil)))) (aCons (eTup (aCons (eC (.int 0)) (aCons (eC (.int 1)) (aCons (eC (.int 1)) (aCons (eC (.int 1)) (aCons (eC (.int 1)) aNil)))))) (aCons (eDat (fLst (aCons (eC (.int 0)) (aCons (eC (.int 1)) (aCons (eC (.int 1)) (aCons (eC (.int 1)) aNil)))))) (aCons (eTup (aCons (eC (.int 1)) (aCons (eC (.int 0)) (aCons (eC (.int 1)) (aCons (eC (.int 1)) aNil))))) (aCons (eTup (aCons (eC (.int 0)) (aCons (eC (.int 0)) (aCons (eC (.int 1)) (aCons (eC (.int 1)) aNil))))) (aCons (eTup (aCons (eC (.int 0)) (aCons (eC (.int 2)) (aCons (eC (.int 1)) (aCons (eC (.int 1)) aNil))))) (aCons (eTup (aCons (eNeg (eC (.int 1))) (aCons (eC (.int 1)) (aCons (eC (.int 1)) (aCons (eC (.int 1)) aNil))))) aNil))))))))))))
  (sSeq (sSet 4 (eOp opAdd (eVar 4) (eDat (fLst (aCons (eTup (aCons (eC (.int 0)) (aCons (eC (.int 1)) (aCons (eC (.int 0)) (aCons (eC (.int 1)) aNil))))) (aCons (eTup (aCons (eC (.int 0)) (aCons (eC (.int 1)) (aCons (eC (.int 1)) (aCons (eC (.int 0)) aNil))))) (aCons (eTup (aCons (eC (.int 0)) (aCons (eC (.int 1)) (aCons (eNeg (eC (.int 1))) (aCons (eC (.int 1)) aNil))))) (aCons (eTup (aCons (eC (.int 0)) (aCons (eC (.int 1)) (aCons (eC (.int 1)) (aCons (eNeg (eC (.int 1))) aNil))))) (aCons (eTup (aCons (eC (.int 0)) (aCons (eC (.int 1)) (aCons (eC (.bool true)) (aCons (eC (.int 1)) aNil))))) (aCons (eTup (aCons (eC (.int 0)) (aCons (eC (.int 1)) (aCons (eC (.int 1)) (aCons (eC (.bool true)) aNil))))) aNil))))))))))
  (sSeq (sSet 4 (eOp opAdd (eVar 4) (eDat (fLst (aCons (eTup (aCons (eC (.int 0)) (aCons (eNeg (eC (.int 1))) (aCons (eC (.int 1)) (aCons (eC (.int 1)) aNil))))) (aCons (eTup (aCons (eC (.int 2)) (aCons (eC (.int 1)) (aCons (eC (.int 1)) (aCons (eC (.int 1)) aNil))))) (aCons (eTup (aCons (eC (.int 9)) (aCons (eC (.int 1)) (aCons (eC (.int 1)) (aCons (eC (.int 1)) aNil))))) (aCons (eTup (aCons (eC .none) (aCons (eC (.int 1)) (aCons (eC (.int 1)) (aCons (eC (.int 1)) aNil))))) (aCons (eTup (aCons (eC (.int 0)) (aCons (eDat (fLst (aCons (eC (.int 1)) aNil))) (aCons (eC (.int 1)) (aCons (eC (.int 1)) aNil))))) aNil)))))))))
  (sSeq (sFor (srcV (eOp opAdd (eVar 4) (eDat (fLst (aCons (eTup (aCons (eC (.bool false)) (aCons (eC (.int 1)) (aCons (eC (.int 1)) (aCons (eC (.int 1)) aNil))))) (aCons (eTup (aCons (eC (.int 0)) (aCons (eC (.bool true)) (aCons (eC (.int 1)) (aCons (eC (.int 1)) aNil))))) (aCons (eTup (aCons (eC (.int 0)) (aCons (eC (.int 1)) (aCons (eC .none) (aCons (eC (.int 1)) aNil))))) (aCons (eTup (aCons (eC (.int 0)) (aCons (eC (.int 1)) (aCons (eC (.int 1)) (aCons (eC (.str "1")) aNil))))) (aCons (eTup (aCons (eC (.int 0)) (aCons (eC (.int 1)) (aCons (eTup (aCons (eC (.int 1)) aNil)) (aCons (eC (.int 1)) aNil))))) aNil))))))))) (tN 3) b_l_bad_webs_3)
  (sRet (eVar 1)))))))))))
noncomputable def F_l_bad_webs : Fn := mkFn 0 5 b_l_bad_webs
noncomputable def b_law_k01_1 : SFn :=
  (sIf (tNotF (tVal (eCall F_l_good (aCons (eCall (F_l_bent 70) (aCons (eVar 2) (aCons (eVar 3) (aCons (eC (.int 4)) aNil)))) aNil)))) (sRet (eC (.bool false))) sNil)
noncomputable def b_law_k01_2 : SFn :=
  (sSeq (sSet 2 (eNew (fCall F_l_pile (aCons (eVar 0) (aCons (eVar 1) aNil)))))
  (sSeq (sSet 3 (eCall F_l_web (aCons (eVar 2) (aCons (eC (.int 5)) aNil))))
  (sSeq (sIf (tVal (eOp opNotB (eCall F_is_web (aCons (eVar 3) aNil)) (eC (.bool true)))) (sRet (eC (.bool false))) sNil)
  (sFor (srcR1 (aCons (eC (.int 14)) aNil)) (tN 4) b_law_k01_1))))
noncomputable def b_law_k01 : SFn :=
  (sSeq (sFor (srcR1 (aCons (eCallB cMax2 (aCons (eC (.int 2)) (aCons (eCallB cMin2 (aCons (eCallB cLen (aCons (eVar 0) aNil)) (aCons (eC (.int 8)) aNil))) aNil))) aNil)) (tN 1) b_law_k01_2)
  (sSeq (sIf (tVal (eOp opNe (eDat (fComp (srcV (eCall F_l_bad_webs aNil)) (tN 7) (tVal (eOp opNotB (eCall F_is_web (aCons (eVar 7) aNil)) (eC (.bool false)))) (eVar 7) [7])) (eDat (fLst aNil)))) (sRet (eC (.bool false))) sNil)
  (sSeq (sSet 5 (eTup (aCons (eC (.int 3)) (aCons (eC (.int 0)) (aCons (eC (.int 2)) (aCons (eTup (aCons (eTup (aCons (eC (.int 0)) (aCons (eC (.int 1)) (aCons (eC (.int 1000)) (aCons (eC (.int 1)) aNil))))) (aCons (eTup (aCons (eC (.int 1)) (aCons (eC (.int 0)) (aCons (eC (.int 1)) (aCons (eOp opPow (eC (.int 10)) (eC (.int 9))) aNil))))) (aCons (eTup (aCons (eC (.int 1)) (aCons (eC (.int 2)) (aCons (eC (.int 3)) (aCons (eC (.int 1)) aNil))))) (aCons (eTup (aCons (eC (.int 1)) (aCons (eC (.int 2)) (aCons (eC (.int 3)) (aCons (eC (.int 1)) aNil))))) aNil))))) aNil))))))
  (sSeq (sSet 6 (eDat (fLst (aCons (eTup (aCons (eOp opPow (eC (.int 10)) (eC (.int 31))) (aCons (eOp opPow (eC (.int 10)) (eC (.int 30))) (aCons (eC (.int 5)) (aCons (eTup (aCons (eTup (aCons (eC (.int 7)) (aCons (eOp opPow (eC (.int 10)) (eC (.int 30))) (aCons (eC (.int 1)) (aCons (eC (.int 1)) aNil))))) aNil)) aNil))))) (aCons (eTup (aCons (eC (.int 41)) (aCons (eC (.int 40)) (aCons (eC (.int 1)) (aCons (eOp opMul (eTup (aCons (eTup (aCons (eC (.int 40)) (aCons (eC (.int 1)) (aCons (eC (.int 1)) (aCons (eC (.int 1)) aNil))))) aNil)) (eC (.int 40))) aNil))))) aNil)))))
  (sSeq (sIf (tOrF (tVal (eOp opNe (eDat (fComp (srcV (eVar 6)) (tN 3) tTrue (eCall F_is_web (aCons (eVar 3) aNil)) [3])) (eDat (fLst (aCons (eC (.bool true)) (aCons (eC (.bool true)) aNil)))))) (tVal (eOp opNotB (eCall F_is_web (aCons (eTup (aCons (eOp opPow (eC (.int 10)) (eC (.int 31))) (aCons (eOp opPow (eC (.int 10)) (eC (.int 31))) (aCons (eC (.int 5)) (aCons (eTup aNil) aNil))))) aNil)) (eC (.bool false))))) (sRet (eC (.bool false))) sNil)
  (sRet (eAnd (eOp opIsB (eCall F_is_web (aCons (eVar 5) aNil)) (eC (.bool true))) (eAnd (eOp opIsB (eCall F_is_web (aCons (eTup (aCons (eC (.int 2)) (aCons (eC (.int 1)) (aCons (eC (.int 0)) (aCons (eTup aNil) aNil))))) aNil)) (eC (.bool true))) (eOp opIsB (eCall F_is_web (aCons (eTup (aCons (eC (.int 8)) (aCons (eC (.int 7)) (aCons (eC (.int 3)) (aCons (eTup (aCons (eTup (aCons (eC (.int 7)) (aCons (eC (.int 3)) (aCons (eC (.int 1)) (aCons (eC (.int 1)) aNil))))) aNil)) aNil))))) aNil)) (eC (.bool true)))))))))))
noncomputable def F_law_k01 : Fn := mkFn 1 8 b_law_k01
noncomputable def b_l_order_of_1 : SFn :=
  (sExpr (eMeth isLs mInsert (eVar 2) (aCons (eCall F_l_take (aCons (eVar 0) (aCons (eOp opAdd (eVar 3) (eC (.int 1))) aNil))) (aCons (eVar 3) aNil))))
noncomputable def b_l_order_of : SFn :=
  (sSeq (sSet 2 (eNew (fLst aNil)))
  (sSeq (sFor (srcR1 (aCons (eVar 1) aNil)) (tN 3) b_l_order_of_1)
  (sRet (eVar 2))))
noncomputable def F_l_order_of : Fn := mkFn 2 4 b_l_order_of
noncomputable def b_l_numbered : SFn :=
  (sSeq (sAsg (eVar 1) (tTupT 4 (tgCons (tN 2) (tgCons (tN 3) (tgCons (tN 4) (tgCons (tN 5) tgNil))))))
  (sSeq (sSet 6 (eCall F_l_order_of (aCons (eVar 0) (aCons (eVar 2) aNil))))
  (sSeq (sSet 7 (eDat (fComp (srcV (eVar 5)) (tTupT 2 (tgCons (tN 8) (tgCons (tN 9) tgNil))) tTrue (eTup (aCons (eOp opIx (eVar 6) (eVar 8)) (aCons (eOp opIx (eVar 6) (eVar 9)) aNil))) [8, 9])))
  (sRet (eTup (aCons (eVar 2) (aCons (eOp opIx (eVar 6) (eVar 3)) (aCons (eOp opIx (eVar 6) (eVar 4)) (aCons (eCallB cTuple (aCons (eDat (fComp (srcV (eCall F_l_order_of (aCons (eVar 0) (aCons (eCallB cLen (aCons (eVar 7) aNil)) aNil)))) (tN 10) tTrue (eOp opIx (eVar 7) (eVar 10)) [10])) aNil)) aNil)))))))))
noncomputable def F_l_numbered : Fn := mkFn 2 11 b_l_numbered
noncomputable def b_l_grown_1 : SFn :=
  (sSeq (sSet 5 (eCall F_l_take (aCons (eVar 0) (aCons (eCallB cLen (aCons (eVar 2) aNil)) aNil))))
  (sSeq (sAsg (eOp opIx (eVar 2) (eVar 5)) (tTupT 2 (tgCons (tN 6) (tgCons (tN 7) tgNil))))
  (sIf (tAndF (tVal (eOp opEq (eCall F_l_take (aCons (eVar 0) (aCons (eC (.int 2)) aNil))) (eC (.int 0)))) (tVal (eOp opLt (eVar 3) (eC (.int 7))))) (sSeq (sSet 2 (eOp opAdd (eOp opAdd (eSl (eVar 2) pNone (pSome (eVar 5))) (eDat (fLst (aCons (eTup (aCons (eVar 6) (aCons (eVar 3) aNil))) (aCons (eTup (aCons (eVar 3) (aCons (eVar 7) aNil))) aNil))))) (eSl (eVar 2) (pSome (eOp opAdd (eVar 5) (eC (.int 1)))) pNone)))
  (sSet 3 (eOp opAdd (eVar 3) (eC (.int 1))))) (sSet 2 (eOp opAdd (eOp opAdd (eSl (eVar 2) pNone (pSome (eVar 5))) (eDat (fLst (aCons (eTup (aCons (eVar 6) (aCons (eVar 7) aNil))) aNil)))) (eSl (eVar 2) (pSome (eVar 5)) pNone))))))
noncomputable def b_l_grown : SFn :=
  (sSeq (sSet 2 (eDat (fLst (aCons (eTup (aCons (eC (.int 0)) (aCons (eC (.int 1)) aNil))) aNil))))
  (sSeq (sSet 3 (eC (.int 2)))
  (sSeq (sFor (srcR1 (aCons (eVar 1) aNil)) (tN 4) b_l_grown_1)
  (sRet (eTup (aCons (eVar 3) (aCons (eC (.int 0)) (aCons (eC (.int 1)) (aCons (eCallB cTuple (aCons (eVar 2) aNil)) aNil)))))))))
noncomputable def F_l_grown : Fn := mkFn 2 8 b_l_grown
noncomputable def b_l_shape_1 : SFn :=
  (sSeq (sSet 7 (eCall F_l_take (aCons (eVar 0) (aCons (eOp opSub (eVar 3) (eC (.int 1))) aNil))))
  (sSeq (sSet 8 (eOp opAdd (eOp opAdd (eVar 7) (eC (.int 1))) (eCall F_l_take (aCons (eVar 0) (aCons (eOp opSub (eOp opSub (eVar 3) (eC (.int 1))) (eVar 7)) aNil)))))
  (sExpr (eMeth isLs mAppend (eVar 5) (aCons (eTup (aCons (eOp opIx (eVar 4) (eVar 7)) (aCons (eOp opIx (eVar 4) (eVar 8)) aNil))) aNil)))))
noncomputable def b_l_shape : SFn :=
  (sSeq (sSet 3 (eOp opAdd (eC (.int 2)) (eCall F_l_take (aCons (eVar 0) (aCons (eOp opSub (eVar 1) (eC (.int 1))) aNil)))))
  (sSeq (sSet 4 (eCall F_l_order_of (aCons (eVar 0) (aCons (eVar 3) aNil))))
  (sSeq (sSet 5 (eNew (fLst aNil)))
  (sSeq (sFor (srcR1 (aCons (eCall F_l_take (aCons (eVar 0) (aCons (eOp opAdd (eVar 2) (eC (.int 1))) aNil))) aNil)) (tN 6) b_l_shape_1)
  (sSeq (sSet 9 (eOp opIx (eDat (fLst (aCons (eC (.int 0)) (aCons (eC (.int 0)) (aCons (eC (.int 0)) (aCons (eCall F_l_take (aCons (eVar 0) (aCons (eOp opSub (eVar 3) (eC (.int 1))) aNil))) aNil)))))) (eCall F_l_take (aCons (eVar 0) (aCons (eC (.int 4)) aNil)))))
  (sRet (eTup (aCons (eVar 3) (aCons (eOp opIx (eVar 4) (eVar 9)) (aCons (eOp opIx (eVar 4) (eNeg (eC (.int 1)))) (aCons (eCallB cTuple (aCons (eVar 5) aNil)) aNil)))))))))))
noncomputable def F_l_shape : Fn := mkFn 3 10 b_l_shape
noncomputable def b_is_pair : SFn :=
  (sSeq (sIf (tOrF (tNotF (tVal (eIsi "tuple" (eVar 2)))) (tOrF (tVal (eOp opNe (eCallB cLen (aCons (eVar 2) aNil)) (eC (.int 2)))) (tNotF (tVal (eCallB cAll (aCons (eDat (fComp (srcV (eVar 2)) (tN 3) tTrue (eCall F_is_place (aCons (eVar 0) (aCons (eVar 3) aNil))) [3])) aNil)))))) (sRet (eC (.bool false))) sNil)
  (sRet (eAnd (eOp opNe (eOp opIx (eVar 2) (eC (.int 0))) (eOp opIx (eVar 2) (eC (.int 1)))) (eOp opNe (eOp opIx (eVar 2) (eC (.int 0))) (eVar 1)))))
noncomputable def F_is_pair : Fn := mkFn 3 4 b_is_pair
noncomputable def b_reached_1 : SFn :=
  (sIf (tVal (eOp (opIn false) (eVar 4) (eVar 2))) (sAsg (eC (.bool true)) (tIx (eVar 2) (eVar 5))) sNil)
noncomputable def b_reached_2 : SFn :=
  (sSeq (sSet 3 (eCallB cLen (aCons (eVar 2) aNil)))
  (sFor (srcV (eVar 0)) (tTupT 2 (tgCons (tN 4) (tgCons (tN 5) tgNil))) b_reached_1))
noncomputable def b_reached : SFn :=
  (sSeq (sSet 2 (eNew (fDComp (srcV (eVar 1)) (tN 6) tTrue (eVar 6) (eC (.bool true)) [6])))
  (sSeq (sSet 3 (eC (.int 0)))
  (sSeq (sWhile (tVal (eOp opNe (eVar 3) (eCallB cLen (aCons (eVar 2) aNil)))) b_reached_2)
  (sRet (eVar 2)))))
noncomputable def F_reached : Fn := mkFn 2 7 b_reached
noncomputable def b_has_round : SFn :=
  (sRet (eCallB cAny (aCons (eDat (fComp (srcV (eVar 0)) (tTupT 2 (tgCons (tN 1) (tgCons (tN 2) tgNil))) tTrue (eOp (opIn false) (eVar 1) (eCall F_reached (aCons (eVar 0) (aCons (eDat (fLst (aCons (eVar 2) aNil))) aNil)))) [1, 2])) aNil)))
noncomputable def F_has_round : Fn := mkFn 1 3 b_has_round
noncomputable def b_is_right_shape : SFn :=
  (sSeq (sIf (tOrF (tNotF (tVal (eIsi "tuple" (eVar 0)))) (tOrF (tVal (eOp opNe (eCallB cLen (aCons (eVar 0) aNil)) (eC (.int 4)))) (tOrF (tNotF (tVal (eCall F_is_whole (aCons (eOp opIx (eVar 0) (eC (.int 0))) aNil)))) (tVal (eOp opLt (eOp opIx (eVar 0) (eC (.int 0))) (eC (.int 2))))))) (sRet (eC (.bool false))) sNil)
  (sSeq (sAsg (eVar 0) (tTupT 4 (tgCons (tN 1) (tgCons (tN 2) (tgCons (tN 3) (tgCons (tN 4) tgNil))))))
  (sSeq (sIf (tOrF (tNotF (tVal (eCall F_is_place (aCons (eVar 1) (aCons (eVar 2) aNil))))) (tOrF (tNotF (tVal (eCall F_is_place (aCons (eVar 1) (aCons (eVar 3) aNil))))) (tOrF (tVal (eOp opEq (eVar 2) (eVar 3))) (tNotF (tVal (eIsi "tuple" (eVar 4))))))) (sRet (eC (.bool false))) sNil)
  (sRet (eAnd (eCallB cAll (aCons (eDat (fComp (srcV (eVar 4)) (tN 5) tTrue (eCall F_is_pair (aCons (eVar 1) (aCons (eVar 3) (aCons (eVar 5) aNil)))) [5])) aNil)) (eNot (eCall F_has_round (aCons (eVar 4) aNil))))))))
noncomputable def F_is_right_shape : Fn := mkFn 1 6 b_is_right_shape
noncomputable def b_is_shape : SFn :=
  (sRet (eCall F_is_right_shape (aCons (eVar 0) aNil)))
noncomputable def F_is_shape : Fn := mkFn 1 1 b_is_shape
noncomputable def b_l_bent_v2 (self : Fn) : SFn :=
  (sSeq (sSet 3 (eOp opIx (eDat (fLst (aCons (eC .none) (aCons (eC (.bool true)) (aCons (eC (.bool false)) (aCons (eC (.int 0)) (aCons (eC (.int 1)) (aCons (eC (.int 2)) (aCons (eNeg (eC (.int 1))) (aCons (eC (.str "")) (aCons (eC (.str "a")) (aCons (eTup aNil) (aCons (eDat (fLst aNil)) (aCons (eTup (aCons (eC (.int 0)) (aCons (eC (.int 1)) aNil))) (aCons (eTup (aCons (eC (.int 1)) (aCons (eC (.int 0)) aNil))) (aCons (eTup (aCons (eC (.int 0)) (aCons (eC (.int 0)) aNil))) aNil)))))))))))))))) (eCall F_l_take (aCons (eVar 0) (aCons (eC (.int 14)) aNil)))))
  (sSeq (sIf (tOrF (tNotF (tVal (eIsi "tuple" (eVar 1)))) (tOrF (tVal (eOp opEq (eVar 1) (eTup aNil))) (tOrF (tVal (eOp opEq (eVar 2) (eC (.int 0)))) (tVal (eOp opEq (eCall F_l_take (aCons (eVar 0) (aCons (eC (.int 6)) aNil))) (eC (.int 0))))))) (sRet (eOp opIx (eDat (fLst (aCons (eVar 3) (aCons (eVar 3) (aCons (eDat (fLst (aCons (eVar 1) aNil))) aNil))))) (eCall F_l_take (aCons (eVar 0) (aCons (eC (.int 3)) aNil))))) sNil)
  (sSeq (sSet 4 (eCall F_l_take (aCons (eVar 0) (aCons (eCallB cLen (aCons (eVar 1) aNil)) aNil))))
  (sSeq (sSet 5 (eCall F_l_take (aCons (eVar 0) (aCons (eC (.int 8)) aNil))))
  (sSeq (sIf (tVal (eOp opEq (eVar 5) (eC (.int 0)))) (sRet (eOp opAdd (eSl (eVar 1) pNone (pSome (eVar 4))) (eSl (eVar 1) (pSome (eOp opAdd (eVar 4) (eC (.int 1)))) pNone))) sNil)
  (sSeq (sIf (tVal (eOp opEq (eVar 5) (eC (.int 1)))) (sRet (eOp opAdd (eOp opAdd (eSl (eVar 1) pNone (pSome (eVar 4))) (eTup (aCons (eVar 3) aNil))) (eSl (eVar 1) (pSome (eVar 4)) pNone))) sNil)
  (sSeq (sIf (tVal (eOp opEq (eVar 5) (eC (.int 2)))) (sRet (eRev (eVar 1))) sNil)
  (sRet (eOp opAdd (eOp opAdd (eSl (eVar 1) pNone (pSome (eVar 4))) (eTup (aCons (eCall self (aCons (eVar 0) (aCons (eOp opIx (eVar 1) (eVar 4)) (aCons (eOp opSub (eVar 2) (eC (.int 1))) aNil)))) aNil))) (eSl (eVar 1) (pSome (eOp opAdd (eVar 4) (eC (.int 1)))) pNone))))))))))
noncomputable def F_l_bent_v2 : Nat → Fn
  | 0 => noF
  | k + 1 => mkFn 3 6 (b_l_bent_v2 (F_l_bent_v2 k))
noncomputable def b_l_once_1 : SFn :=
  (sAsg (eC (.bool true)) (tIx (eVar 1) (eVar 2)))
noncomputable def b_l_once : SFn :=
  (sSeq (sSet 1 (eNew fD0))
  (sSeq (sFor (srcV (eVar 0)) (tN 2) b_l_once_1)
  (sRet (eDat (fComp (srcK 1) (tN 2) tTrue (eVar 2) [2])))))
noncomputable def F_l_once : Fn := mkFn 1 3 b_l_once
noncomputable def b_l_is_shape_1 : SFn :=
  (sSeq (sIf (tOrF (tNotF (tVal (eIsi "tuple" (eVar 5)))) (tOrF (tVal (eOp opNe (eCallB cLen (aCons (eVar 5) aNil)) (eC (.int 2)))) (tNotF (tVal (eCall F_l_is_place (aCons (eVar 1) (aCons (eOp opIx (eVar 5) (eC (.int 0))) aNil))))))) (sRet (eC (.bool false))) sNil)
  (sIf (tOrF (tNotF (tVal (eCall F_l_is_place (aCons (eVar 1) (aCons (eOp opIx (eVar 5) (eC (.int 1))) aNil))))) (tOrF (tVal (eOp opEq (eOp opIx (eVar 5) (eC (.int 0))) (eOp opIx (eVar 5) (eC (.int 1))))) (tVal (eOp opEq (eOp opIx (eVar 5) (eC (.int 0))) (eVar 3))))) (sRet (eC (.bool false))) sNil))
noncomputable def b_l_is_shape_2 : SFn :=
  (sSet 6 (eDat (fComp (srcV (eVar 6)) (tN 8) (tVal (eOp opNe (eDat (fComp (srcV (eVar 4)) (tN 5) (tAndF (tVal (eOp opEq (eOp opIx (eVar 5) (eC (.int 0))) (eVar 8))) (tVal (eOp (opIn false) (eOp opIx (eVar 5) (eC (.int 1))) (eVar 6)))) (eVar 5) [5])) (eDat (fLst aNil)))) (eVar 8) [8])))
noncomputable def b_l_is_shape : SFn :=
  (sSeq (sIf (tOrF (tNotF (tVal (eIsi "tuple" (eVar 0)))) (tOrF (tVal (eOp opNe (eCallB cLen (aCons (eVar 0) aNil)) (eC (.int 4)))) (tNotF (tVal (eCall F_l_is_from (aCons (eOp opIx (eVar 0) (eC (.int 0))) (aCons (eC (.int 2)) aNil))))))) (sRet (eC (.bool false))) sNil)
  (sSeq (sAsg (eVar 0) (tTupT 4 (tgCons (tN 1) (tgCons (tN 2) (tgCons (tN 3) (tgCons (tN 4) tgNil))))))
  (sSeq (sIf (tOrF (tNotF (tVal (eCall F_l_is_place (aCons (eVar 1) (aCons (eVar 2) aNil))))) (tOrF (tNotF (tVal (eCall F_l_is_place (aCons (eVar 1) (aCons (eVar 3) aNil))))) (tOrF (tVal (eOp opEq (eVar 2) (eVar 3))) (tNotF (tVal (eIsi "tuple" (eVar 4))))))) (sRet (eC (.bool false))) sNil)
  (sSeq (sFor (srcV (eVar 4)) (tN 5) b_l_is_shape_1)
  (sSeq (sSet 6 (eCall F_l_once (aCons (eDat (fComp (srcV (eVar 4)) (tN 5) tTrue (eOp opIx (eVar 5) (eC (.int 0))) [5])) aNil)))
  (sSeq (sFor (srcR1 (aCons (eOp opAdd (eCallB cLen (aCons (eVar 4) aNil)) (eC (.int 1))) aNil)) (tN 7) b_l_is_shape_2)
  (sRet (eOp opEq (eVar 6) (eDat (fLst aNil))))))))))
noncomputable def F_l_is_shape : Fn := mkFn 1 9 b_l_is_shape
noncomputable def b_l_good_v3 : SFn :=
  (sSeq (sSet 1 (eCallB cRepr (aCons (eVar 0) aNil)))
  (sSeq (sSet 2 (eCall F_is_shape (aCons (eVar 0) aNil)))
  (sRet (eAnd (eIsi "bool" (eVar 2)) (eAnd (eOp opEq (eVar 2) (eCall F_l_is_shape (aCons (eVar 0) aNil))) (eOp opEq (eCallB cRepr (aCons (eVar 0) aNil)) (eVar 1)))))))
noncomputable def F_l_good_v3 : Fn := mkFn 1 3 b_l_good_v3
noncomputable def b_l_bad_shapes_1 : SFn :=
  (sExpr (eMeth isLs mAppend (eVar 0) (aCons (eTup (aCons (eVar 1) (aCons (eC (.int 0)) (aCons (eC (.int 1)) (aCons (eTup aNil) aNil))))) aNil)))
noncomputable def b_l_bad_shapes_2 : SFn :=
  (sSet 0 (eNew (fCat (eVar 0) (eDat (fLst (aCons (eTup (aCons (eC (.int 2)) (aCons (eVar 2) (aCons (eC (.int 1)) (aCons (eTup aNil) aNil))))) (aCons (eTup (aCons (eC (.int 2)) (aCons (eC (.int 0)) (aCons (eVar 2) (aCons (eTup aNil) aNil))))) aNil)))))))
noncomputable def b_l_bad_shapes_3 : SFn :=
  (sSet 0 (eNew (fCat (eVar 0) (eDat (fLst (aCons (eTup (aCons (eC (.int 2)) (aCons (eC (.int 0)) (aCons (eC (.int 1)) (aCons (eTup (aCons (eVar 2) aNil)) aNil))))) (aCons (eTup (aCons (eC (.int 2)) (aCons (eC (.int 0)) (aCons (eC (.int 1)) (aCons (eTup (aCons (eTup (aCons (eC (.int 0)) (aCons (eC (.int 1)) aNil))) (aCons (eVar 2) aNil))) aNil))))) (aCons (eTup (aCons (eC (.int 2)) (aCons (eC (.int 0)) (aCons (eC (.int 1)) (aCons (eTup (aCons (eTup (aCons (eC (.int 0)) (aCons (eC (.int 1)) aNil))) (aCons (eVar 2) (aCons (eTup (aCons (eC (.int 0)) (aCons (eC (.int 1)) aNil))) aNil)))) aNil))))) aNil))))))))
noncomputable def b_l_bad_shapes : SFn :=
  (sSeq (sSet 0 (eNew (fLst (aCons (eC .none) (aCons (eC (.int 0)) (aCons (eC (.bool true)) (aCons (eC (.str "")) (aCons (eTup aNil) (aCons (eDat (fLst aNil)) (aCons (eTup (aCons (eC (.int 2)) (aCons (eC (.int 0)) (aCons (eC (.int 1)) aNil)))) (aCons (eTup (aCons (eC (.int 2)) (aCons (eC (.int 0)) (aCons (eC (.int 1)) (aCons (eTup aNil) (aCons (eTup aNil) aNil)))))) (aCons (eDat (fLst (aCons (eC (.int 2)) (aCons (eC (.int 0)) (aCons (eC (.int 1)) (aCons (eTup aNil) aNil)))))) (aCons (eTup (aCons (eC (.int 2)) (aCons (eC (.int 0)) (aCons (eC (.int 1)) (aCons (eDat (fLst aNil)) aNil))))) (aCons (eTup (aCons (eC (.int 2)) (aCons (eC (.int 0)) (aCons (eC (.int 1)) (aCons (eC .none) aNil))))) aNil))))))))))))))
  (sSeq (sFor (srcV (eDat (fLst (aCons (eC (.int 1)) (aCons (eC (.int 0)) (aCons (eNeg (eC (.int 1))) (aCons (eC (.bool true)) (aCons (eC .none) (aCons (eC (.str "2")) aNil))))))))) (tN 1) b_l_bad_shapes_1)
  (sSeq (sFor (srcV (eDat (fLst (aCons (eC (.int 2)) (aCons (eNeg (eC (.int 1))) (aCons (eC (.bool true)) (aCons (eC .none) (aCons (eC (.str "1")) (aCons (eTup (aCons (eC (.int 1)) aNil)) aNil))))))))) (tN 2) b_l_bad_shapes_2)
  (sSeq (sSet 3 (eDat (fLst (aCons (eC .none) (aCons (eTup aNil) (aCons (eTup (aCons (eC (.int 0)) aNil)) (aCons (eTup (aCons (eC (.int 0)) (aCons (eC (.int 1)) (aCons (eC (.int 1)) aNil)))) (aCons (eDat (fLst (aCons (eC (.int 0)) (aCons (eC (.int 1)) aNil)))) (aCons (eTup (aCons (eC (.int 1)) (aCons (eC (.int 0)) aNil))) (aCons (eTup (aCons (eC (.int 0)) (aCons (eC (.int 0)) aNil))) (aCons (eTup (aCons (eC (.int 0)) (aCons (eC (.int 2)) aNil))) (aCons (eTup (aCons (eNeg (eC (.int 1))) (aCons (eC (.int 1)) aNil))) (aCons (eTup (aCons (eC (.bool false)) (aCons (eC (.int 1)) aNil))) (aCons (eTup (aCons (eC (.int 0)) (aCons (eC (.bool true)) aNil))) (aCons (eTup (aCons (eC (.str "0")) (aCons (eC (.int 1)) aNil))) (aCons (eC (.int 0)) aNil))))))))))))))))
  (sSeq (sSet 3 (eOp opAdd (eVar 3) (eDat (fLst (aCons (eTup (aCons (eC (.int 0)) (aCons (eNeg (eC (.int 1))) aNil))) (aCons (eTup (aCons (eC (.int 2)) (aCons (eC (.int 1)) aNil))) aNil))))))
  (sSeq (sFor (srcV (eVar 3)) (tN 2) b_l_bad_shapes_3)
  (sSeq (sSet 0 (eNew (fCat (eVar 0) (eDat (fLst (aCons (eTup (aCons (eC (.int 2)) (aCons (eC (.int 0)) (aCons (eC (.int 0)) (aCons (eTup aNil) aNil))))) (aCons (eTup (aCons (eC (.int 3)) (aCons (eC (.int 0)) (aCons (eC (.int 2)) (aCons (eTup (aCons (eTup (aCons (eC (.int 0)) (aCons (eC (.int 1)) aNil))) (aCons (eTup (aCons (eC (.int 1)) (aCons (eC (.int 0)) aNil))) aNil))) aNil))))) (aCons (eTup (aCons (eC (.int 4)) (aCons (eC (.int 0)) (aCons (eC (.int 3)) (aCons (eTup (aCons (eTup (aCons (eC (.int 0)) (aCons (eC (.int 1)) aNil))) (aCons (eTup (aCons (eC (.int 1)) (aCons (eC (.int 2)) aNil))) (aCons (eTup (aCons (eC (.int 2)) (aCons (eC (.int 1)) aNil))) (aCons (eTup (aCons (eC (.int 2)) (aCons (eC (.int 3)) aNil))) aNil))))) aNil))))) aNil))))))))
  (sSeq (sSet 0 (eNew (fCat (eVar 0) (eDat (fLst (aCons (eTup (aCons (eC (.int 5)) (aCons (eC (.int 0)) (aCons (eC (.int 4)) (aCons (eTup (aCons (eTup (aCons (eC (.int 0)) (aCons (eC (.int 1)) aNil))) (aCons (eTup (aCons (eC (.int 1)) (aCons (eC (.int 2)) aNil))) (aCons (eTup (aCons (eC (.int 2)) (aCons (eC (.int 3)) aNil))) (aCons (eTup (aCons (eC (.int 3)) (aCons (eC (.int 1)) aNil))) (aCons (eTup (aCons (eC (.int 3)) (aCons (eC (.int 4)) aNil))) aNil)))))) aNil))))) (aCons (eTup (aCons (eC (.int 5)) (aCons (eC (.int 0)) (aCons (eC (.int 4)) (aCons (eTup (aCons (eTup (aCons (eC (.int 1)) (aCons (eC (.int 2)) aNil))) (aCons (eTup (aCons (eC (.int 2)) (aCons (eC (.int 3)) aNil))) (aCons (eTup (aCons (eC (.int 3)) (aCons (eC (.int 1)) aNil))) aNil)))) aNil))))) aNil)))))))
  (sRet (eOp opAdd (eVar 0) (eDat (fLst (aCons (eTup (aCons (eC (.int 4)) (aCons (eC (.int 0)) (aCons (eC (.int 3)) (aCons (eTup (aCons (eTup (aCons (eC (.int 1)) (aCons (eC (.int 2)) aNil))) (aCons (eTup (aCons (eC (.int 2)) (aCons (eC (.int 1)) aNil))) aNil))) aNil))))) aNil)))))))))))))
noncomputable def F_l_bad_shapes : Fn := mkFn 0 4 b_l_bad_shapes
noncomputable def b_law_k30_1 : SFn :=
  (sSeq (sSet 10 (eCall (F_l_bent_v2 70) (aCons (eVar 2) (aCons (eVar 3) (aCons (eC (.int 4)) aNil)))))
  (sIf (tNotF (tVal (eCall F_l_good_v3 (aCons (eVar 10) aNil)))) (sRet (eC (.bool false))) sNil))
noncomputable def b_law_k30_2 : SFn :=
  (sSeq (sSet 11 (eOp opAdd (eOp opAdd (eSl (eVar 9) pNone (pSome (eVar 5))) (eTup (aCons (eRev (eOp opIx (eVar 9) (eVar 5))) aNil))) (eSl (eVar 9) (pSome (eOp opAdd (eVar 5) (eC (.int 1)))) pNone)))
  (sSeq (sSet 12 (eOp opAdd (eVar 9) (eTup (aCons (eRev (eOp opIx (eVar 9) (eVar 5))) aNil))))
  (sIf (tOrF (tNotF (tVal (eCall F_l_good_v3 (aCons (eTup (aCons (eVar 6) (aCons (eVar 7) (aCons (eVar 8) (aCons (eVar 11) aNil))))) aNil)))) (tNotF (tVal (eCall F_l_good_v3 (aCons (eTup (aCons (eVar 6) (aCons (eVar 7) (aCons (eVar 8) (aCons (eVar 12) aNil))))) aNil))))) (sRet (eC (.bool false))) sNil)))
noncomputable def b_law_k30_3 : SFn :=
  (sSeq (sAsg (eVar 3) (tTupT 4 (tgCons (tN 6) (tgCons (tN 7) (tgCons (tN 8) (tgCons (tN 9) tgNil))))))
  (sSeq (sIf (tVal (eOp opNotB (eCall F_is_shape (aCons (eVar 3) aNil)) (eC (.bool true)))) (sRet (eC (.bool false))) sNil)
  (sSeq (sFor (srcR1 (aCons (eC (.int 5)) aNil)) (tN 4) b_law_k30_1)
  (sFor (srcR1 (aCons (eCallB cLen (aCons (eVar 9) aNil)) aNil)) (tN 5) b_law_k30_2))))
noncomputable def b_law_k30_4 : SFn :=
  (sSeq (sSet 2 (eNew (fCall F_l_pile (aCons (eVar 0) (aCons (eVar 1) aNil)))))
  (sFor (srcV (eDat (fLst (aCons (eCall F_l_shape (aCons (eVar 2) (aCons (eC (.int 6)) (aCons (eC (.int 9)) aNil)))) (aCons (eCall F_l_numbered (aCons (eVar 2) (aCons (eCall F_l_grown (aCons (eVar 2) (aCons (eC (.int 4)) aNil))) aNil))) aNil))))) (tN 3) b_law_k30_3))
noncomputable def b_law_k30 : SFn :=
  (sSeq (sFor (srcR1 (aCons (eCallB cMax2 (aCons (eC (.int 2)) (aCons (eCallB cMin2 (aCons (eCallB cLen (aCons (eVar 0) aNil)) (aCons (eC (.int 8)) aNil))) aNil))) aNil)) (tN 1) b_law_k30_4)
  (sSeq (sSet 13 (eOp opPow (eC (.int 10)) (eC (.int 29))))
  (sSeq (sSet 14 (eDat (fLst (aCons (eTup (aCons (eVar 13) (aCons (eC (.int 0)) (aCons (eC (.int 1)) (aCons (eTup aNil) aNil))))) (aCons (eTup (aCons (eVar 13) (aCons (eC (.int 0)) (aCons (eC (.int 1)) (aCons (eTup (aCons (eTup (aCons (eC (.int 0)) (aCons (eC (.int 1)) aNil))) aNil)) aNil))))) (aCons (eTup (aCons (eVar 13) (aCons (eC (.int 5)) (aCons (eOp opSub (eVar 13) (eC (.int 1))) (aCons (eTup (aCons (eTup (aCons (eC (.int 5)) (aCons (eOp opSub (eVar 13) (eC (.int 2))) aNil))) (aCons (eTup (aCons (eOp opSub (eVar 13) (eC (.int 2))) (aCons (eOp opSub (eVar 13) (eC (.int 1))) aNil))) aNil))) aNil))))) aNil))))))
  (sSeq (sIf (tOrF (tVal (eOp opNe (eDat (fComp (srcV (eVar 14)) (tN 15) tTrue (eCall F_is_shape (aCons (eVar 15) aNil)) [15])) (eOp opMul (eDat (fLst (aCons (eC (.bool true)) aNil))) (eC (.int 3))))) (tVal (eOp opNotB (eCall F_is_shape (aCons (eTup (aCons (eVar 13) (aCons (eC (.int 0)) (aCons (eVar 13) (aCons (eTup aNil) aNil))))) aNil)) (eC (.bool false))))) (sRet (eC (.bool false))) sNil)
  (sRet (eOp opEq (eDat (fComp (srcV (eCall F_l_bad_shapes aNil)) (tN 15) (tVal (eOp opNotB (eCall F_is_shape (aCons (eVar 15) aNil)) (eC (.bool false)))) (eVar 15) [15])) (eDat (fLst aNil))))))))
noncomputable def F_law_k30 : Fn := mkFn 1 16 b_law_k30
end L2.HW
/-! T0: plain tools. -/
namespace L2.HW
open PySem PySem.Spec PyProof.Rows
@[simp] theorem openOut_nx (lk : Option Nat) (L0 L : LH) (env : En) : openOut lk L0 (.nx env L) = .nx env (openL lk L0 L) := (rfl)
@[simp] theorem openOut_rt (lk : Option Nat) (L0 L : LH) (w : Va) : openOut lk L0 (.rt w L) = .rt w (openL lk L0 L) := (rfl)
/-! ### data that can be shown, compared -/
mutual
def fine : PyData → Bool
  | .none => true
  | .bool _ => true
  | .int i => decide (i.natAbs.log2 < 1920)
  | .str x => PyData.strOk x
  | .list xs => fineAll xs
  | .tuple xs => fineAll xs
  | .dict _ => false
def fineAll : List PyData → Bool
  | [] => true
  | x :: xs => fine x && fineAll xs
end
theorem fineAll_iff : ∀ {xs : List PyData}, fineAll xs = true ↔ ∀ x ∈ xs, fine x = true
  | [] => by simp [fineAll]
  | x :: xs => by simp [fineAll, fineAll_iff (xs := xs)]
mutual
theorem fine_show : ∀ x : PyData, fine x = true → x.showable = true ∧ x.canLay0 = true ∧ x.leavesShort 1921 = true
  | .none, _ => by simp [PyData.showable, PyData.canLay0, PyData.leavesShort]
  | .bool _, _ => by simp [PyData.showable, PyData.canLay0, PyData.leavesShort]
  | .int i, h => by
    have h : i.natAbs.log2 < 1920 := by simpa [fine] using h
    refine ⟨by simpa [PyData.showable] using h, by simp [PyData.canLay0], ?_⟩
    simp only [PyData.leavesShort, PyData.shown]
    exact decide_eq_true (int_text_len_1921 h)
  | .str x, h => by
    have h : PyData.strOk x = true := by simpa [fine] using h
    refine ⟨by simp [PyData.showable], by simpa [PyData.canLay0] using h, ?_⟩
    simp only [PyData.leavesShort, List.all_eq_true, decide_eq_true_eq]
    intro c hc
    unfold PyData.strOk at h
    rw [Array.all_eq_true_iff_forall_mem] at h
    have := h c (by simpa using hc)
    have : c < 0x110000 := by simpa using this
    omega
  | .list xs, h => by
    obtain ⟨h1, h2, h3⟩ := fines_show xs (by simpa [fine] using h)
    exact ⟨by simpa [PyData.showable] using h1, by simpa [PyData.canLay0] using h2, by simpa [PyData.leavesShort] using h3⟩
  | .tuple xs, h => by
    obtain ⟨h1, h2, h3⟩ := fines_show xs (by simpa [fine] using h)
    exact ⟨by simpa [PyData.showable] using h1, by simpa [PyData.canLay0] using h2, by simpa [PyData.leavesShort] using h3⟩
  | .dict _, h => by simp [fine] at h
theorem fines_show : ∀ x : List PyData, fineAll x = true → PyData.showableAll x = true ∧ PyData.canLayAll0 x = true ∧ PyData.leavesShortAll 1921 x = true
  | [], _ => by simp [PyData.showableAll, PyData.canLayAll0, PyData.leavesShortAll]
  | x :: xs, h => by
    have h : fine x = true ∧ fineAll xs = true := by simpa [fineAll] using h
    obtain ⟨h1, h2, h3⟩ := fine_show x h.1
    obtain ⟨k1, k2, k3⟩ := fines_show xs h.2
    simp [PyData.showableAll, PyData.canLayAll0, PyData.leavesShortAll, h1, h2, h3, k1, k2, k3]
end
theorem okShow_of {x : PyData} (h : fine x = true) (hd : x.depth < 180) (hb : x.bulk ≤ 8000) : okShow x := by
  obtain ⟨h1, h2, h3⟩ := fine_show x h
  refine ⟨h1, hd, ?_⟩
  have := PyData.shown_le_bulk 1921 (by decide) x h3
  rw [sizeLine_eq]
  omega
theorem shaped_of {x : PyData} (h : fine x = true) (hd : x.depth ≤ 64) : SeqAt.shaped x = true := by
  obtain ⟨h1, h2, h3⟩ := fine_show x h
  simp [SeqAt.shaped, h2, hd]
theorem len_bulk : ∀ xs : List PyData, xs.length ≤ PyData.bulkAll xs
  | [] => by simp [PyData.bulkAll]
  | x :: xs => by have := len_bulk xs; simp [PyData.bulkAll]; omega
theorem bulkAll_app : ∀ xs ys : List PyData, PyData.bulkAll (xs ++ ys) = PyData.bulkAll xs + PyData.bulkAll ys
  | [], ys => by simp [PyData.bulkAll]
  | x :: xs, ys => by simp [PyData.bulkAll, bulkAll_app xs ys]; omega
theorem fineAll_app : ∀ xs ys : List PyData, fineAll (xs ++ ys) = (fineAll xs && fineAll ys)
  | [], ys => by simp [fineAll]
  | x :: xs, ys => by simp [fineAll, fineAll_app xs ys, Bool.and_assoc]
theorem depthAll_app : ∀ xs ys : List PyData, PyData.depthAll (xs ++ ys) = max (PyData.depthAll xs) (PyData.depthAll ys)
  | [], ys => by simp [PyData.depthAll]
  | x :: xs, ys => by simp [PyData.depthAll, depthAll_app xs ys, Nat.max_assoc]
theorem depthAll_le {n : Nat} : ∀ {xs : List PyData}, PyData.depthAll xs ≤ n ↔ ∀ x ∈ xs, x.depth ≤ n
  | [] => by simp [PyData.depthAll]
  | x :: xs => by simp [PyData.depthAll, depthAll_le (xs := xs), Nat.max_le]
theorem eqv_int (i j : Int) : PyData.eqv (.int i) (.int j) = decide (i = j) := by
  by_cases h : i = j <;> simp [PyData.eqv, h]
@[simp] theorem dget_d (L : LH) (x : PyData) (u : Va) : Va.dget L (.d x) u = none := by
  unfold Va.dget
  split <;> first | rfl | (rename_i h; cases h) | (rename_i h _; cases h)
@[simp] theorem dget_scr (L : LH) (x : List Int) (u : Va) : Va.dget L (.scr x) u = none := by
  unfold Va.dget
  split <;> first | rfl | (rename_i h; cases h) | (rename_i h _; cases h)
@[simp] theorem seq_scr (L : LH) (ns : List Int) : (Va.scr ns).seq L = some (ns.map fun i => .d (.int i)) := (rfl)
/-! ### loops -/
theorem forL_inv {g : Va → En → LH → Res En} {body : SFn} {I : List Va → En → LH → Prop} : ∀ (ws : List Va) (env : En) (L : LH), I ws env L →
    (∀ w r env L, I (w :: r) env L → ∃ env1 L1, g w env L = .ok env1 L1 ∧ ∃ env2 L2, (body env1 L1 = .nx env2 L2 ∨ body env1 L1 = .ct env2 L2) ∧ I r env2 L2) → ∃ env' L', forL g body ws env L = .nx env' L' ∧ I [] env' L'
  | [], env, L, h, _ => ⟨env, L, rfl, h⟩
  | w :: ws, env, L, h, k => by
    obtain ⟨env1, L1, e1, env2, L2, e2, h2⟩ := k w ws env L h
    obtain ⟨env', L', e3, h3⟩ := forL_inv ws env2 L2 h2 k
    refine ⟨env', L', ?_, h3⟩
    unfold forL
    rw [e1]
    rcases e2 with e2 | e2 <;> simp only [e2] <;> exact e3
/-- a comprehension that gives data and changes nothing -/
theorem compL_data {g : Va → En → LH → Res En} {t : En → LH → Res Bool} {f : EF} {env : En} {L : LH} (p : PyData → Bool) (h : PyData → PyData) : ∀ (xs : List PyData),
    (∀ x ∈ xs, ∃ env1, g (.d x) env L = .ok env1 L ∧ t env1 L = .ok (p x) L ∧ (p x = true → f env1 L = .ok (.d (h x)) L)) →
    compL g t f (xs.map Va.d) env L = .ok (((xs.filter p).map h).map Va.d) L
  | [], _ => rfl
  | x :: xs, k => by
    obtain ⟨env1, e1, e2, e3⟩ := k x List.mem_cons_self
    have ih := compL_data (g := g) (t := t) (f := f) (env := env) (L := L) p h xs fun y hy => k y (List.mem_cons_of_mem _ hy)
    rw [List.map_cons]
    unfold compL
    rw [e1]
    simp only [e2]
    cases hp : p x with
    | true => simp [e3 hp, ih, hp]
    | false => simp [ih, hp]
theorem fComp_data {s : Srcf} {g : Va → En → LH → Res En} {t : En → LH → Res Bool} {f : EF} {vs : List Nat} {env : En} {L : LH} {xs : List PyData} (p : PyData → Bool) (h : PyData → PyData)
    (hs : s env L = .ok (xs.map Va.d, none) L) (hz : xs.length ≤ sizeLine) (k : ∀ x ∈ xs, ∃ env1, g (.d x) (wipeE env vs) L = .ok env1 L ∧ t env1 L = .ok (p x) L ∧ (p x = true → f env1 L = .ok (.d (h x)) L)) :
    fComp s g t f vs env L = .ok (.lst (((xs.filter p).map h).map Va.d)) L := by
  unfold fComp
  rw [hs]
  simp only [Res.bind_ok, List.length_map, if_pos hz, lockL_none]
  rw [compL_data p h xs k]
  simp
@[simp] theorem va_comp {α : Type} (h : α → PyData) (xs : List α) : (Ob.lst (xs.map (Va.d ∘ h))).va = some (.d (.list (xs.map h))) := by
  rw [← List.map_map]; exact va_lst _
@[simp] theorem va_comp' {α : Type} (h : α → PyData) (xs : List α) : (Ob.lst (xs.map fun x => Va.d (h x))).va = some (.d (.list (xs.map h))) := va_comp h xs
theorem fComp_map {s : Srcf} {g : Va → En → LH → Res En} {f : EF} {vs : List Nat} {env : En} {L : LH} {xs : List PyData} (h : PyData → PyData)
    (hs : s env L = .ok (xs.map Va.d, none) L) (hz : xs.length ≤ sizeLine) (k : ∀ x ∈ xs, ∃ env1, g (.d x) (wipeE env vs) L = .ok env1 L ∧ f env1 L = .ok (.d (h x)) L) :
    fComp s g tTrue f vs env L = .ok (.lst ((xs.map h).map Va.d)) L := by
  have := fComp_data (s := s) (g := g) (t := tTrue) (f := f) (vs := vs) (env := env) (L := L) (xs := xs) (fun _ => true) h hs hz fun x hx => by
    obtain ⟨e, h1, h2⟩ := k x hx
    exact ⟨e, h1, rfl, fun _ => h2⟩
  rwa [List.filter_eq_self.mpr (fun _ _ => rfl)] at this
theorem fComp_filter {s : Srcf} {g : Va → En → LH → Res En} {t : En → LH → Res Bool} {f : EF} {vs : List Nat} {env : En} {L : LH} {xs : List PyData} (p : PyData → Bool)
    (hs : s env L = .ok (xs.map Va.d, none) L) (hz : xs.length ≤ sizeLine) (k : ∀ x ∈ xs, ∃ env1, g (.d x) (wipeE env vs) L = .ok env1 L ∧ t env1 L = .ok (p x) L ∧ f env1 L = .ok (.d x) L) :
    fComp s g t f vs env L = .ok (.lst ((xs.filter p).map Va.d)) L := by
  have := fComp_data (s := s) (g := g) (t := t) (f := f) (vs := vs) (env := env) (L := L) (xs := xs) p _root_.id hs hz fun x hx => by
    obtain ⟨e, h1, h2, h3⟩ := k x hx
    exact ⟨e, h1, h2, fun _ => h3⟩
  simpa using this
@[simp] theorem va_nil : (Ob.lst []).va = some (.d (.list [])) := (rfl)
/-! ### a pile -/
abbrev P1 (p : Int) : Option Ob := some (.lst [.d (.int p)])
theorem kept_set {L g : LH} {n : Nat} {p p' : Int} (hn : n < L.length) : Kept (L.set n (P1 p)) ((L ++ g).set n (P1 p')) := by
  intro k hk
  rw [List.length_set] at hk
  by_cases h : k = n
  · subst h
    exact .inr ⟨_, List.getElem?_set_self (by simp; omega), by simp [Ob.low, lows]⟩
  · left
    rw [List.getElem?_set_ne (Ne.symm h), List.getElem?_set_ne (Ne.symm h), List.getElem?_append_left hk]
theorem outV_set {L g : LH} {n : Nat} {p p' : Int} (w : Va) (hn : n < L.length) : outV (L.set n (P1 p)) ((L ++ g).set n (P1 p')) (some w) = .ok w (L.set n (P1 p')) := by
  unfold outV
  simp only [if_pos (kept_set hn), List.length_set]
  rw [List.set_append_left _ _ hn, List.take_left' (by simp)]
theorem outV_set0 {L : LH} {n : Nat} {p p' : Int} (w : Va) (hn : n < L.length) : outV (L.set n (P1 p)) (L.set n (P1 p')) (some w) = .ok w (L.set n (P1 p')) := by
  have := outV_set (g := []) (p := p) (p' := p') w hn
  rwa [List.append_nil] at this
theorem set_app {L g : LH} {n : Nat} {o : Option Ob} (hn : n < L.length) : L.set n o ++ g = (L ++ g).set n o := (List.set_append_left _ _ hn).symm
theorem get_pile {L : LH} {n : Nat} {p : Int} (hn : n < L.length) : (L.set n (P1 p))[n]? = some (P1 p) := List.getElem?_set_self hn
theorem get_top {L : LH} {n : Nat} {p : Int} {o : Option Ob} (hn : n < L.length) : ((L ++ [o]).set n (P1 p))[L.length]? = some o := by
  rw [List.getElem?_set_ne (by omega), List.getElem?_append_right (Nat.le_refl _)]; simp
theorem set_top {L : LH} {n : Nat} {p : Int} {o o' : Option Ob} (hn : n < L.length) : ((L ++ [o]).set n (P1 p)).set L.length o' = (L ++ [o']).set n (P1 p) := by
  rw [List.set_comm _ _ (by omega), List.set_append_right _ _ (Nat.le_refl _)]; simp
theorem set_pile {L : LH} {n : Nat} (o o' : Option Ob) : (L.set n o).set n o' = L.set n o' := List.set_set ..
theorem get_top' {L : LH} {n : Nat} {p : Int} {o : Option Ob} (hn : n < L.length) (h : L.length < ((L ++ [o]).set n (P1 p)).length) : ((L ++ [o]).set n (P1 p))[L.length]'h = o := by
  have := get_top (p := p) (o := o) hn
  rw [List.getElem?_eq_getElem h] at this
  exact Option.some.inj this
theorem get_pile' {L : LH} {n : Nat} {p : Int} (hn : n < L.length) (h : n < (L.set n (P1 p)).length) : (L.set n (P1 p))[n]'h = P1 p := List.getElem_set_self h
theorem rng_ok {c : Int} (h : 0 ≤ c) (h2 : c ≤ 1000000) : -4611686018427387904 ≤ c ∧ c < 4611686018427387904 := by omega
theorem outV_set' {L g : LH} {n : Nat} {p p' : Int} (w : Va) (hn : n < L.length) : outV (L.set n (P1 p)) (L.set n (P1 p') ++ g) (some w) = .ok w (L.set n (P1 p')) := by
  rw [set_app hn]; exact outV_set w hn
@[simp] theorem u_mkTup (ws : List Va) : mkTup ws = match datas ws with
  | some xs => .d (.tuple xs)
  | none => .tup ws := rfl
@[simp] theorem u_va (ws : List Va) : (Ob.lst ws).va = (datas ws).map fun xs => .d (.list xs) := (rfl)
@[simp] theorem datas_comp {α : Type} (h : α → PyData) (xs : List α) : datas (xs.map (Va.d ∘ h)) = some (xs.map h) := by
  rw [← List.map_map]; exact datas_map _
@[simp] theorem datas_comp' {α : Type} (h : α → PyData) (xs : List α) : datas (xs.map fun x => Va.d (h x)) = some (xs.map h) := datas_comp h xs
@[simp] theorem cmpOk_str (a b : Str) : cmpOk (.str a) (.str b) = true := (rfl)
theorem cmpOk_of {x y : PyData} (h : SeqAt.shaped x = true) (k : SeqAt.shaped y = true) : cmpOk x y = true := by simp [cmpOk, h, k]
@[simp] theorem cmpOk_int (a b : Int) : cmpOk (.int a) (.int b) = true := cmpOk_of (by simp [SeqAt.shaped, PyData.canLay0, PyData.depth]) (by simp [SeqAt.shaped, PyData.canLay0, PyData.depth])
@[simp] theorem cmpOk_bool (a b : Bool) : cmpOk (.bool a) (.bool b) = true := cmpOk_of (by simp [SeqAt.shaped, PyData.canLay0, PyData.depth]) (by simp [SeqAt.shaped, PyData.canLay0, PyData.depth])
@[simp] theorem outV_nil (L : LH) (w : Va) : outV [] L (some w) = .ok w [] := by
  have : Kept [] L := fun n h => by simp at h
  simp [outV, this]
theorem cMin2_eq (i j : Int) (L : LH) : cMin2 [.d (.int i), .d (.int j)] L = .ok (.d (.int (min i j))) L := by
  simp only [u_cMin2]
  congr 3
  by_cases h : j < i
  · rw [if_pos h]; omega
  · rw [if_neg h]; omega
theorem cMax2_eq (i j : Int) (L : LH) : cMax2 [.d (.int i), .d (.int j)] L = .ok (.d (.int (max i j))) L := by
  simp only [u_cMax2]
  congr 3
  by_cases h : j > i
  · rw [if_pos h]; omega
  · rw [if_neg h]; omega
@[simp] theorem outV_self (L : LH) (w : Va) : outV L L (some w) = .ok w L := by simp [outV]
@[simp] theorem outV_app (L g : LH) (w : Va) : outV L (L ++ g) (some w) = .ok w L := by simp [outV]
end L2.HW
/-! TB: the pile of digits. -/
namespace L2.HW
open PySem PySem.Spec PyProof.Rows
theorem take_ex {L : LH} {n : Nat} {p s : Int} (hn : n < L.length) (hs : 0 < s) (hl : s.natAbs.log2 < 9000 := by decide) :
    ∃ u p' : Int, 0 ≤ u ∧ u < s ∧ F_l_take [.loc n, .d (.int s)] (L.set n (P1 p)) = .ok (.d (.int u)) (L.set n (P1 p')) := by
  refine ⟨p % s, p / s, Int.emod_nonneg _ (by omega), Int.emod_lt_of_pos _ hs, ?_⟩
  have hg := get_pile (L := L) (p := p) hn
  simp [F_l_take, b_l_take, mkFn, Va.dget, Va.seq, hg, atI, ixN, modC, divC, hs, hl, outV_set0, hn]
theorem take_cell {L : LH} {n : Nat} {p s : Int} {o : Option Ob} (hn : n < L.length) (hs : 0 < s) (hl : s.natAbs.log2 < 9000 := by decide) :
    ∃ u p' : Int, 0 ≤ u ∧ u < s ∧ F_l_take [.loc n, .d (.int s)] ((L ++ [o]).set n (P1 p)) = .ok (.d (.int u)) ((L ++ [o]).set n (P1 p')) := take_ex (by simp; omega) hs hl
theorem log_small {s : Int} (h : 0 ≤ s) (h2 : s ≤ 100000) : s.natAbs.log2 < 9000 := by
  have : s.natAbs < 2 ^ 9000 := by
    have : s.natAbs ≤ 100000 := by omega
    exact Nat.lt_of_le_of_lt this (by decide +kernel)
  by_cases h0 : s.natAbs = 0
  · rw [h0]; decide
  · exact (Nat.log2_lt h0).mpr this
theorem mixed_ex {c k : Int} {L : LH} (hk : 0 ≤ k) (hk2 : k ≤ 100000) : ∃ u : Int, 0 ≤ u ∧ u < 2147483579 ∧ F_l_mixed [.d (.int c), .d (.int k)] L = .ok (.d (.int u)) L := by
  have lg : ∀ i : Int, 0 ≤ i → i < 2 ^ 64 → i.natAbs.log2 < 64 := fun i h0 h1 => by
    have : i.natAbs < 2 ^ 64 := by omega
    by_cases z : i.natAbs = 0
    · rw [z]; decide
    · exact (Nat.log2_lt z).mpr this
  have a0 : 0 ≤ c % 2147483647 := Int.emod_nonneg _ (by omega)
  have a1 : c % 2147483647 < 2147483647 := Int.emod_lt_of_pos _ (by omega)
  have m1 : mulC (c % 2147483647) 48271 = true := by
    have := lg _ a0 (by omega)
    have h2 := lg 48271 (by omega) (by omega)
    exact decide_eq_true (by omega)
  have m2 : mulC k 69621 = true := by
    have := lg k hk (by omega)
    have h2 := lg 69621 (by omega) (by omega)
    exact decide_eq_true (by omega)
  generalize hn : (c % 2147483647 * 48271 + k * 69621 + 1048583) % 2147483629 = n
  have n0 : 0 ≤ n := by rw [← hn]; exact Int.emod_nonneg _ (by omega)
  have n1 : n < 2147483629 := by rw [← hn]; exact Int.emod_lt_of_pos _ (by omega)
  have m3 : mulC n n = true := by
    have := lg n n0 (by omega)
    exact decide_eq_true (by omega)
  generalize hn2 : (n * n) % 2147483587 = n2
  have p0 : 0 ≤ n2 := by rw [← hn2]; exact Int.emod_nonneg _ (by omega)
  have p1 : n2 < 2147483587 := by rw [← hn2]; exact Int.emod_lt_of_pos _ (by omega)
  have m4 : mulC n2 (n2 + 2) = true := by
    have := lg n2 p0 (by omega)
    have := lg (n2 + 2) (by omega) (by omega)
    exact decide_eq_true (by omega)
  refine ⟨(n2 * (n2 + 2)) % 2147483579, Int.emod_nonneg _ (by omega), Int.emod_lt_of_pos _ (by omega), ?_⟩
  simp [F_l_mixed, b_l_mixed, mkFn, modC, m1, m2, hn, m3, hn2, m4]
theorem log_pow {i : Int} {k : Nat} (h0 : 0 ≤ i) (h : i < 2 ^ k) (hk : 0 < k) : i.natAbs.log2 < k := by
  have : i.natAbs < 2 ^ k := by
    have : ((i.natAbs : Nat) : Int) < ((2 ^ k : Nat) : Int) := by rw [Int.natAbs_of_nonneg h0]; simpa using h
    exact_mod_cast this
  by_cases z : i.natAbs = 0
  · rw [z]; simpa using hk
  · exact (Nat.log2_lt z).mpr this
theorem pile_ex {ns : List Int} {k : Int} {L : LH} (hk : 0 ≤ k) (hk2 : k ≤ 10000) (hl : ns.length ≤ 63) : ∃ p : Int, F_l_pile [.scr ns, .d (.int k)] L = .ok (.lst [.d (.int p)]) L := by
  have cell : ∃ c : Int, (k < (ns.length : Int) → atI (ns.map fun i => Va.d (.int i)) k = some (.d (.int c))) ∧ (¬ k < (ns.length : Int) → c = 0) := by
    by_cases h : k < (ns.length : Int)
    · have hlt : k.toNat < ns.length := by omega
      refine ⟨ns[k.toNat], fun _ => ?_, fun z => absurd h z⟩
      simp [atI, ixN, hk, h, List.getElem?_eq_getElem hlt]
    · exact ⟨0, fun z => absurd z h, fun _ => rfl⟩
  obtain ⟨c, hc1, hc2⟩ := cell
  have loop := forL_inv (g := tN 4) (body := b_l_pile_1)
    (I := fun ws env M => M = L ∧ ∃ (f : Int) (j : Nat) (a : Option Va), env = [some (.scr ns), some (.d (.int k)), some (.d (.int c)), some (.d (.int f)), a] ∧ j + ws.length = 24 ∧ ws = (List.range' j ws.length).map (fun i => Va.d (.int (0 + (i : Nat)))) ∧ 0 ≤ f ∧ f < 2 ^ (31 * j))
    (rngV 0 24) [some (.scr ns), some (.d (.int k)), some (.d (.int c)), some (.d (.int 0)), none] L ⟨rfl, 0, 0, none, rfl, by simp [rngV], by simp [rngV, List.range_eq_range'], by omega, by simp⟩ ?_
  · obtain ⟨env', L', e1, rfl, f, j, a, rfl, h1, h2, h3, h4⟩ := loop
    by_cases hb : c < 10 ^ 18
    · refine ⟨f, ?_⟩
      have hb' : ¬ (1000000000000000000 ≤ c) := by omega
      by_cases h : k < (ns.length : Int)
      · simp [F_l_pile, b_l_pile, mkFnF, h, hc1 h, sFor, e1, powC, hb', sizeLine_eq, settleOb, mapO]
      · have := hc2 h
        subst this
        simp [F_l_pile, b_l_pile, mkFnF, h, sFor, e1, powC, sizeLine_eq, settleOb, mapO]
    · have hb' : 1000000000000000000 ≤ c := by omega
      have h : k < (ns.length : Int) := by
        by_cases h : k < (ns.length : Int)
        · exact h
        · have := hc2 h; omega
      have b1 : mulC (10 ^ 60) (10 ^ 60) = true := by decide +kernel
      have b2 : mulC (10 ^ 120) (10 ^ 60) = true := by decide +kernel
      have b3 : mulC (10 ^ 180) (10 ^ 60) = true := by decide +kernel
      simp only [Int.reducePow] at b1 b2 b3
      exact ⟨_, by simp [F_l_pile, b_l_pile, mkFnF, h, hc1 h, powC, hb', sizeLine_eq, settleOb, mapO, b1, b2, b3, modC]; rfl⟩
  · rintro w r env M ⟨rfl, f, j, a, rfl, h1, h2, h3, h4⟩
    simp only [List.length_cons] at h1 h2
    rw [List.range'_succ, List.map_cons, List.cons.injEq] at h2
    obtain ⟨rfl, h2⟩ := h2
    have hj : j < 24 := by omega
    obtain ⟨u, u0, u1, eu⟩ := mixed_ex (c := c) (k := 7 * k + 100 * (j : Int) + (j : Int) * (j : Int)) (L := M) (by
      have : (0 : Int) ≤ (j : Int) * j := Int.mul_nonneg (by omega) (by omega)
      omega) (by
      have : (j : Int) * j ≤ 24 * 24 := Int.mul_le_mul (by omega) (by omega) (by omega) (by omega)
      omega)
    have lg : ∀ i : Int, 0 ≤ i → i < 2 ^ 31 → i.natAbs.log2 < 31 := fun i h0 h1 => log_pow h0 h1 (by omega)
    have hp : (2 : Int) ^ (31 * j) ≤ 2 ^ 744 := by
      have : (2 : Nat) ^ (31 * j) ≤ 2 ^ 744 := Nat.pow_le_pow_right (by omega) (by omega)
      exact_mod_cast this
    have lf : f.natAbs.log2 < 744 := log_pow h3 (by omega) (by omega)
    have m1 : mulC f 2147483579 = true := by
      have := lg 2147483579 (by omega) (by omega)
      exact decide_eq_true (by omega)
    have m2 : mulC 7 k = true := by
      have := lg k (by omega) (by omega)
      have := lg 7 (by omega) (by omega)
      exact decide_eq_true (by omega)
    have m3 : mulC 100 (j : Int) = true := by
      have := lg j (by omega) (by omega)
      have := lg 100 (by omega) (by omega)
      exact decide_eq_true (by omega)
    have m4 : mulC (j : Int) (j : Int) = true := by
      have := lg j (by omega) (by omega)
      exact decide_eq_true (by omega)
    refine ⟨_, _, rfl, _, _, .inl ?_, rfl, f * 2147483579 + u, j + 1, some (.d (.int (0 + (j : Int)))), rfl, by omega, h2, ?_, ?_⟩
    · simp [b_l_pile_1, m1, m2, m3, m4, eu]
    · have : 0 ≤ f * 2147483579 := Int.mul_nonneg h3 (by omega)
      omega
    · have e : (2 : Int) ^ (31 * (j + 1)) = 2 ^ (31 * j) * 2147483648 := by
        rw [show 31 * (j + 1) = 31 * j + 31 by omega, Int.pow_add]; rfl
      rw [e]
      have : (f + 1) * 2147483579 ≤ 2 ^ (31 * j) * 2147483579 := Int.mul_le_mul_of_nonneg_right (by omega) (by omega)
      have h5 : (0 : Int) < 2 ^ (31 * j) := Int.pow_pos (by omega)
      omega
end L2.HW
/-! TO: shallow, small data. -/
namespace L2.HW
open PySem PySem.Spec PyProof.Rows
/-- shallow, small data -/
def Ok (d b : Nat) (x : PyData) : Prop := fine x = true ∧ x.depth ≤ d ∧ x.bulk ≤ b
theorem Ok.mono {d b d' b' : Nat} {x : PyData} (h : Ok d b x) (h1 : d ≤ d') (h2 : b ≤ b') : Ok d' b' x := ⟨h.1, by have := h.2.1; omega, by have := h.2.2; omega⟩
theorem Ok.tuple {d b : Nat} {xs : List PyData} (h : Ok d b (.tuple xs)) : ∀ x ∈ xs, fine x = true ∧ x.depth + 1 ≤ d := by
  intro x hx
  have h1 := h.1
  have h2 := h.2.1
  simp only [fine] at h1
  simp only [PyData.depth] at h2
  have h3 : PyData.depthAll xs ≤ d - 1 := by omega
  exact ⟨fineAll_iff.mp h1 x hx, by have := depthAll_le.mp h3 x hx; omega⟩
theorem bulk_take_drop (xs : List PyData) (i : Nat) (h : i < xs.length) : PyData.bulkAll (xs.take i) + (xs[i].bulk + 1) + PyData.bulkAll (xs.drop (i + 1)) = PyData.bulkAll xs := by
  have e := congrArg PyData.bulkAll (List.take_append_drop i xs)
  rw [bulkAll_app, List.drop_eq_getElem_cons h] at e
  simp only [PyData.bulkAll] at e
  omega
theorem bulk_rev : ∀ xs : List PyData, PyData.bulkAll xs.reverse = PyData.bulkAll xs
  | [] => rfl
  | x :: xs => by rw [List.reverse_cons, bulkAll_app, bulk_rev xs]; simp [PyData.bulkAll]; omega
theorem ok_tuple_iff {d b : Nat} {xs : List PyData} : Ok (d + 1) b (.tuple xs) ↔ (∀ x ∈ xs, fine x = true ∧ x.depth ≤ d) ∧ PyData.bulkAll xs ≤ b := by
  unfold Ok
  simp only [fine, PyData.depth, PyData.bulk, fineAll_iff]
  constructor
  · rintro ⟨h1, h2, h3⟩
    have h2 : PyData.depthAll xs ≤ d := by omega
    exact ⟨fun x hx => ⟨h1 x hx, depthAll_le.mp h2 x hx⟩, h3⟩
  · rintro ⟨h1, h2⟩
    have : PyData.depthAll xs ≤ d := depthAll_le.mpr fun x hx => (h1 x hx).2
    exact ⟨fun x hx => (h1 x hx).1, by omega, h2⟩
theorem atI_map (xs : List PyData) (i : Int) (h0 : 0 ≤ i) (h1 : i < xs.length) : ∃ x ∈ xs, atI (xs.map Va.d) i = some (.d x) := by
  have hlt : i.toNat < xs.length := by omega
  refine ⟨xs[i.toNat], List.getElem_mem hlt, ?_⟩
  simp [atI, ixN, h0, h1, List.getElem?_eq_getElem hlt]
theorem cut_lo {α : Type} (xs : List α) (i : Int) (h0 : 0 ≤ i) (h1 : i ≤ xs.length) : cutA xs none (some i) = xs.take i.toNat := by
  have e : i = ((i.toNat : Nat) : Int) := by omega
  rw [e]
  unfold cutA
  rw [HT.sIx_none, HT.sIx_nat]
  simp
  omega
theorem cut_hi {α : Type} (xs : List α) (i : Int) (h0 : 0 ≤ i) (h1 : i ≤ xs.length) : cutA xs (some i) none = xs.drop i.toNat := by
  have e : i = ((i.toNat : Nat) : Int) := by omega
  rw [e]
  unfold cutA
  rw [HT.sIx_none, HT.sIx_nat]
  have : min i.toNat xs.length = i.toNat := by omega
  rw [this, Int.toNat_natCast]
  exact List.take_of_length_le (by simp)
theorem ret3 {x odd : PyData} {d b : Nat} {t : Int} (hx : Ok d b x) (ho : Ok 1 4 odd) (h0 : 0 ≤ t) (h1 : t < 3) : ∃ y, atI [Va.d odd, Va.d odd, Va.d (.list [x])] t = some (.d y) ∧ Ok (d + 2) (b + 20) y := by
  have h : t = 0 ∨ t = 1 ∨ t = 2 := by omega
  rcases h with rfl | rfl | rfl
  · exact ⟨odd, rfl, ho.mono (by omega) (by omega)⟩
  · exact ⟨odd, rfl, ho.mono (by omega) (by omega)⟩
  · refine ⟨.list [x], rfl, ?_⟩
    obtain ⟨h1, h2, h3⟩ := hx
    refine ⟨by simp [fine, fineAll, h1], by simp [PyData.depth, PyData.depthAll]; omega, by simp [PyData.bulk, PyData.bulkAll]; omega⟩
theorem eqv_t0 (xs : List PyData) : PyData.eqv (.tuple xs) (.tuple []) = xs.isEmpty := by
  cases xs <;> simp [PyData.eqv, PyData.eqvAll]
end L2.HW
/-! TF: loops as folds, whiles by a measure, dicts of truths. -/
namespace L2.HW
open PySem PySem.Spec PyProof.Rows
theorem seq_nx {f g : SFn} {env env1 : En} {L L1 : LH} {r : Out} (h : f env L = .nx env1 L1) (k : g env1 L1 = r) : sSeq f g env L = r := by
  simp only [u_sSeq, h]; exact k
theorem seq_rt {f g : SFn} {env : En} {L L1 : LH} {w : Va} (h : f env L = .rt w L1) : sSeq f g env L = .rt w L1 := by
  simp only [u_sSeq, h]
theorem seq_exc {f g : SFn} {env env1 : En} {L L1 : LH} {c : Str} {x : Option PyData} (h : f env L = .exc c x env1 L1) : sSeq f g env L = .exc c x env1 L1 := by
  simp only [u_sSeq, h]
theorem for_nx {s : Srcf} {g : Va → En → LH → Res En} {body : SFn} {env env1 : En} {L L1 : LH} {ws : List Va} (hs : s env L = .ok (ws, none) L) (h : forL g body ws env L = .nx env1 L1) : sFor s g body env L = .nx env1 L1 := by
  simp only [sFor, hs, then_ok, lockL_none, h, openOut_nx, openL_none]
theorem for_rt {s : Srcf} {g : Va → En → LH → Res En} {body : SFn} {env : En} {L L1 : LH} {w : Va} {ws : List Va} (hs : s env L = .ok (ws, none) L) (h : forL g body ws env L = .rt w L1) : sFor s g body env L = .rt w L1 := by
  simp only [sFor, hs, then_ok, lockL_none, h, openOut_rt, openL_none]
theorem fn_rt {np nl : Nat} {body : SFn} {ws : List Va} {L L' : LH} {x : PyData} (hl : ws.length = np) (h : body (ws.map some ++ List.replicate (nl - ws.length) none) L = .rt (.d x) L') (hk : outV L L' (some (.d x)) = .ok (.d x) L := by simp) : mkFn np nl body ws L = .ok (.d x) L := by
  unfold mkFn
  rw [if_pos hl, h]
  simpa using hk
theorem fn_out {np nl : Nat} {body : SFn} {ws : List Va} {L L' L2 : LH} {w u : Va} (hl : ws.length = np) (h : body (ws.map some ++ List.replicate (nl - ws.length) none) L = .rt w L') (hs : settle L' L.length 9 w = some u) (hk : outV L L' (some u) = .ok u L2) : mkFn np nl body ws L = .ok u L2 := by
  unfold mkFn
  rw [if_pos hl, h]
  simp only [hs, hk]
/-- a loop that goes through -/
theorem forL_fold {α σ : Type} {g : Va → En → LH → Res En} {body : SFn} (enc : α → Va) (R : σ → En → LH → Prop) (step : σ → α → σ) : ∀ (xs : List α) (s : σ) (env : En) (L : LH), R s env L →
    (∀ s, ∀ x ∈ xs, ∀ env L, R s env L → ∃ env1 L1, g (enc x) env L = .ok env1 L1 ∧ ∃ env2 L2, (body env1 L1 = .nx env2 L2 ∨ body env1 L1 = .ct env2 L2) ∧ R (step s x) env2 L2) →
    ∃ env' L', forL g body (xs.map enc) env L = .nx env' L' ∧ R (xs.foldl step s) env' L'
  | [], s, env, L, h, _ => ⟨env, L, rfl, h⟩
  | x :: xs, s, env, L, h, k => by
    obtain ⟨env1, L1, e1, env2, L2, e2, h2⟩ := k s x List.mem_cons_self env L h
    obtain ⟨env', L', e3, h3⟩ := forL_fold enc R step xs (step s x) env2 L2 h2 fun s y hy => k s y (List.mem_cons_of_mem _ hy)
    refine ⟨env', L', ?_, h3⟩
    rw [List.map_cons]
    unfold forL
    rw [e1]
    rcases e2 with e2 | e2 <;> simp only [e2] <;> exact e3
/-- a loop that may return -/
theorem forL_all {α : Type} {g : Va → En → LH → Res En} {body : SFn} (enc : α → Va) (R : En → LH → Prop) (p : α → Bool) (w : Va) : ∀ (xs : List α) (env : En) (L : LH), R env L →
    (∀ x ∈ xs, ∀ env L, R env L → ∃ env1 L1, g (enc x) env L = .ok env1 L1 ∧ (if p x then ∃ env2 L2, (body env1 L1 = .nx env2 L2 ∨ body env1 L1 = .ct env2 L2) ∧ R env2 L2 else ∃ env2 L2, body env1 L1 = .rt w L2 ∧ R env2 L2)) →
    ∃ env' L', R env' L' ∧ forL g body (xs.map enc) env L = if xs.all p then .nx env' L' else .rt w L'
  | [], env, L, h, _ => ⟨env, L, h, rfl⟩
  | x :: xs, env, L, h, k => by
    obtain ⟨env1, L1, e1, h1⟩ := k x List.mem_cons_self env L h
    cases hp : p x with
    | true =>
      rw [hp] at h1
      obtain ⟨env2, L2, e2, h2⟩ := h1
      obtain ⟨env', L', h3, e3⟩ := forL_all enc R p w xs env2 L2 h2 fun y hy => k y (List.mem_cons_of_mem _ hy)
      refine ⟨env', L', h3, ?_⟩
      rw [List.map_cons, List.all_cons, hp, Bool.true_and]
      unfold forL
      rw [e1]
      rcases e2 with e2 | e2 <;> simp only [e2] <;> exact e3
    | false =>
      rw [hp] at h1
      obtain ⟨env2, L2, e2, h2⟩ := h1
      refine ⟨env2, L2, h2, ?_⟩
      rw [List.map_cons, List.all_cons, hp, Bool.false_and]
      unfold forL
      rw [e1]
      simp only [e2]
      rfl
/-- a while, by a measure -/
theorem while_inv {t : En → LH → Res Bool} {body : SFn} {I : Nat → En → LH → Prop} {J : En → LH → Prop}
    (h : ∀ n env L, I n env L → (∃ L1, t env L = .ok false L1 ∧ J env L1) ∨ (∃ L1, t env L = .ok true L1 ∧ ∃ env2 L2, (body env L1 = .nx env2 L2 ∨ body env L1 = .ct env2 L2) ∧ ∃ m, m < n ∧ I m env2 L2)) {n : Nat} {env : En} {L : LH} (h0 : I n env L) :
    ∃ env' L', sWhile t body env L = .nx env' L' ∧ J env' L' := by
  have go : ∀ n env L, I n env L → ∃ k env' L', whileL t body k env L = .nx env' L' ∧ J env' L' := by
    intro n
    induction n using Nat.strongRecOn with
    | ind n ih =>
      intro env L hI
      rcases h n env L hI with ⟨L1, e1, j⟩ | ⟨L1, e1, env2, L2, e2, m, hm, i2⟩
      · exact ⟨1, env, L1, by simp [whileL, e1], j⟩
      · obtain ⟨k, env', L', e3, j⟩ := ih m hm env2 L2 i2
        refine ⟨k + 1, env', L', ?_, j⟩
        unfold whileL
        rw [e1]
        simp only [then_ok, if_pos]
        rcases e2 with e2 | e2 <;> simp only [e2] <;> exact e3
  obtain ⟨k, env', L', e, j⟩ := go n env L h0
  exact ⟨env', L', sWhile_eq e (by simp), j⟩
/-- a dict of truths -/
def insK {κ : Type} [DecidableEq κ] (ks : List κ) (k : κ) : List κ := if k ∈ ks then ks else ks ++ [k]
theorem mem_insK {κ : Type} [DecidableEq κ] {ks : List κ} {k x : κ} : x ∈ insK ks k ↔ x ∈ ks ∨ x = k := by
  unfold insK
  split
  · constructor
    · exact .inl
    · rintro (h | rfl)
      · exact h
      · assumption
  · simp
theorem nodup_insK {κ : Type} [DecidableEq κ] {ks : List κ} {k : κ} (h : ks.Nodup) : (insK ks k).Nodup := by
  unfold insK
  split
  · exact h
  · rw [List.nodup_append]
    exact ⟨h, by simp, fun x hx y hy => by have : y = k := by simpa using hy
                                           rw [this]; rintro rfl; contradiction⟩
def tts {κ : Type} (ks : List κ) (w : Va) : List (κ × Va) := ks.map fun k => (k, w)
theorem alook_tts {κ : Type} [DecidableEq κ] (w : Va) (k : κ) : ∀ ks : List κ, alook (tts ks w) k = if k ∈ ks then some w else none
  | [] => by simp [tts]
  | a :: r => by
    have ih := alook_tts w k r
    unfold tts at ih ⊢
    rw [List.map_cons, alook_cons, ih]
    by_cases h : a = k
    · simp [h]
    · have : ¬ k = a := fun z => h z.symm
      simp [h, this]
theorem aput_tts {κ : Type} [DecidableEq κ] (w : Va) (k : κ) (ks : List κ) : aput (tts ks w) k w = tts (insK ks k) w := by
  unfold aput tIx.aput insK tts
  have e : ((ks.map fun k => (k, w)).any fun kv => decide (kv.1 = k)) = decide (k ∈ ks) := by
    rw [List.any_map, Bool.eq_iff_iff]
    simp only [List.any_eq_true, Function.comp, decide_eq_true_eq]
    constructor
    · rintro ⟨x, h1, rfl⟩; exact h1
    · intro h; exact ⟨k, h, rfl⟩
  rw [e]
  by_cases h : k ∈ ks
  · simp only [h, decide_true, if_pos, List.map_map, if_true]
    apply List.map_congr_left
    intro x _
    simp only [Function.comp]
    split <;> simp
  · simp [h]
theorem tts_length {κ : Type} (ks : List κ) (w : Va) : (tts ks w).length = ks.length := by simp [tts]
def once {κ : Type} [DecidableEq κ] (xs : List κ) : List κ := xs.foldl insK []
theorem mem_foldl_insK {κ : Type} [DecidableEq κ] {x : κ} : ∀ (xs ks : List κ), x ∈ xs.foldl insK ks ↔ x ∈ ks ∨ x ∈ xs
  | [], ks => by simp
  | a :: r, ks => by
    rw [List.foldl_cons, mem_foldl_insK r, mem_insK, List.mem_cons, or_assoc]
theorem mem_once {κ : Type} [DecidableEq κ] {x : κ} {xs : List κ} : x ∈ once xs ↔ x ∈ xs := by simp [once, mem_foldl_insK]
theorem nodup_foldl_insK {κ : Type} [DecidableEq κ] : ∀ (xs ks : List κ), ks.Nodup → (xs.foldl insK ks).Nodup
  | [], _, h => h
  | a :: r, ks, h => nodup_foldl_insK r _ (nodup_insK h)
theorem nodup_once {κ : Type} [DecidableEq κ] (xs : List κ) : (once xs).Nodup := nodup_foldl_insK xs [] .nil
theorem len_foldl_insK {κ : Type} [DecidableEq κ] : ∀ (xs ks : List κ), (xs.foldl insK ks).length ≤ ks.length + xs.length
  | [], ks => by simp
  | a :: r, ks => by
    have := len_foldl_insK r (insK ks a)
    have h : (insK ks a).length ≤ ks.length + 1 := by unfold insK; split <;> simp
    simp only [List.foldl_cons, List.length_cons]
    omega
theorem len_once {κ : Type} [DecidableEq κ] (xs : List κ) : (once xs).length ≤ xs.length := by have := len_foldl_insK xs ([] : List κ); unfold once; simpa using this
/-- a dict comprehension that gives truths -/
theorem dcompL_tts {g : Va → En → LH → Res En} {t : En → LH → Res Bool} {fk fv : EF} {env : En} {L : LH} {w : Va} {α : Type} (enc : α → Va) (p : α → Bool) (h : α → Int) : ∀ (xs : List α) (ks : List Int),
    (∀ x ∈ xs, ∃ env1, g (enc x) env L = .ok env1 L ∧ t env1 L = .ok (p x) L ∧ (p x = true → fk env1 L = .ok (.d (.int (h x))) L ∧ fv env1 L = .ok w L)) → ks.length + xs.length ≤ sizeLine →
    dcompL g t fk fv (xs.map enc) (tts ks w) env L = .ok (tts (((xs.filter p).map h).foldl insK ks) w) L
  | [], _, _, _ => rfl
  | x :: xs, ks, k, hz => by
    obtain ⟨env1, e1, e2, e3⟩ := k x List.mem_cons_self
    rw [List.map_cons]
    unfold dcompL
    rw [e1]
    simp only [e2]
    simp only [List.length_cons] at hz
    cases hp : p x with
    | true =>
      obtain ⟨e4, e5⟩ := e3 hp
      have hl : (insK ks (h x)).length ≤ ks.length + 1 := by unfold insK; split <;> simp
      simp only [e4, e5, if_true, tts_length]
      rw [if_pos (by omega), aput_tts, dcompL_tts enc p h xs _ (fun y hy => k y (List.mem_cons_of_mem _ hy)) (by omega)]
      simp [hp]
    | false =>
      simp only [Bool.false_eq_true, if_false]
      rw [dcompL_tts enc p h xs _ (fun y hy => k y (List.mem_cons_of_mem _ hy)) (by omega)]
      simp [hp]
theorem fDComp_tts {s : Srcf} {g : Va → En → LH → Res En} {t : En → LH → Res Bool} {fk fv : EF} {vs : List Nat} {env : En} {L : LH} {w : Va} {α : Type} (enc : α → Va) (p : α → Bool) (h : α → Int) (xs : List α)
    (hs : s env L = .ok (xs.map enc, none) L) (hz : xs.length ≤ sizeLine) (k : ∀ x ∈ xs, ∃ env1, g (enc x) (wipeE env vs) L = .ok env1 L ∧ t env1 L = .ok (p x) L ∧ (p x = true → fk env1 L = .ok (.d (.int (h x))) L ∧ fv env1 L = .ok w L)) :
    fDComp s g t fk fv vs env L = .ok (.di (tts (once ((xs.filter p).map h)) w)) L := by
  unfold fDComp
  rw [hs]
  simp only [Res.bind_ok, lockL_none]
  have := dcompL_tts (g := g) (t := t) (fk := fk) (fv := fv) (env := wipeE env vs) (L := L) (w := w) enc p h xs [] k (by simpa using hz)
  rw [show tts ([] : List Int) w = [] from rfl] at this
  rw [this]
  rfl
/-- a comprehension over typed things -/
theorem compL_ty {g : Va → En → LH → Res En} {t : En → LH → Res Bool} {f : EF} {env : En} {L : LH} {α : Type} (enc : α → Va) (p : α → Bool) (h : α → Va) : ∀ (xs : List α),
    (∀ x ∈ xs, ∃ env1, g (enc x) env L = .ok env1 L ∧ t env1 L = .ok (p x) L ∧ (p x = true → f env1 L = .ok (h x) L)) →
    compL g t f (xs.map enc) env L = .ok ((xs.filter p).map h) L
  | [], _ => rfl
  | x :: xs, k => by
    obtain ⟨env1, e1, e2, e3⟩ := k x List.mem_cons_self
    have ih := compL_ty (g := g) (t := t) (f := f) (env := env) (L := L) enc p h xs fun y hy => k y (List.mem_cons_of_mem _ hy)
    rw [List.map_cons]
    unfold compL
    rw [e1]
    simp only [e2]
    cases hp : p x with
    | true => simp [e3 hp, ih, hp]
    | false => simp [ih, hp]
theorem fComp_ty {s : Srcf} {g : Va → En → LH → Res En} {t : En → LH → Res Bool} {f : EF} {vs : List Nat} {env : En} {L : LH} {α : Type} (enc : α → Va) (p : α → Bool) (h : α → Va) (xs : List α)
    (hs : s env L = .ok (xs.map enc, none) L) (hz : xs.length ≤ sizeLine) (k : ∀ x ∈ xs, ∃ env1, g (enc x) (wipeE env vs) L = .ok env1 L ∧ t env1 L = .ok (p x) L ∧ (p x = true → f env1 L = .ok (h x) L)) :
    fComp s g t f vs env L = .ok (.lst ((xs.filter p).map h)) L := by
  unfold fComp
  rw [hs]
  simp only [Res.bind_ok, List.length_map, if_pos hz, lockL_none]
  rw [compL_ty enc p h xs k]
  simp
theorem fComp_tym {s : Srcf} {g : Va → En → LH → Res En} {f : EF} {vs : List Nat} {env : En} {L : LH} {α : Type} (enc : α → Va) (h : α → Va) (xs : List α)
    (hs : s env L = .ok (xs.map enc, none) L) (hz : xs.length ≤ sizeLine) (k : ∀ x ∈ xs, ∃ env1, g (enc x) (wipeE env vs) L = .ok env1 L ∧ f env1 L = .ok (h x) L) :
    fComp s g tTrue f vs env L = .ok (.lst (xs.map h)) L := by
  have := fComp_ty (s := s) (g := g) (t := tTrue) (f := f) (vs := vs) (env := env) (L := L) enc (fun _ => true) h xs hs hz fun x hx => by
    obtain ⟨e, h1, h2⟩ := k x hx
    exact ⟨e, h1, rfl, fun _ => h2⟩
  rwa [List.filter_eq_self.mpr (fun _ _ => rfl)] at this
theorem srcR1_int {fs : En → LH → Res (List Va)} {i : Int} {env : En} {L L1 : LH} (h : fs env L = .ok [.d (.int i)] L1) (rg : -4611686018427387904 ≤ i ∧ i < 4611686018427387904) : srcR1 fs env L = .ok (rngV 0 i.toNat, none) L1 := by
  simp [h, rg]
theorem srcR1_nat {fs : En → LH → Res (List Va)} {n : Nat} {env : En} {L L1 : LH} (h : fs env L = .ok [.d (.int (n : Int))] L1) (hn : n ≤ sizeLine + 1) : srcR1 fs env L = .ok (rngV 0 n, none) L1 := by
  have hs : sizeLine = 16777216 := sizeLine_eq
  have := srcR1_int h ⟨by omega, by omega⟩
  rwa [Int.toNat_natCast] at this
theorem srcR2_int {fs : En → LH → Res (List Va)} {i j : Int} {env : En} {L L1 : LH} (h : fs env L = .ok [.d (.int i), .d (.int j)] L1) (rg : -4611686018427387904 ≤ i ∧ i < 4611686018427387904) (rg2 : -4611686018427387904 ≤ j ∧ j < 4611686018427387904) : srcR2 fs env L = .ok (rngV i (j - i).toNat, none) L1 := by
  simp [h, rg, rg2]
end L2.HW
/-! TS: roads from place to place: what is reached, rounds (plain). -/
namespace L2.HW
abbrev Pr := Int × Int
/-- roads lead from x to y (perhaps none) -/
inductive Rch (ps : List Pr) : Int → Int → Prop
  | refl (x : Int) : Rch ps x x
  | step {x y z : Int} : Rch ps x y → (y, z) ∈ ps → Rch ps x z
theorem Rch.trans {ps : List Pr} {x y z : Int} (h : Rch ps x y) (k : Rch ps y z) : Rch ps x z := by
  induction k with
  | refl => exact h
  | step _ e ih => exact .step ih e
theorem Rch.one {ps : List Pr} {x y : Int} (h : (x, y) ∈ ps) : Rch ps x y := .step (.refl x) h
theorem Rch.mono {ps qs : List Pr} (hs : ∀ p ∈ ps, p ∈ qs) {x y : Int} (h : Rch ps x y) : Rch qs x y := by
  induction h with
  | refl => exact .refl _
  | step _ e ih => exact .step ih (hs _ e)
def reach1 (ps : List Pr) (ks : List Int) : List Int := ps.foldl (fun ks p => if p.1 ∈ ks then insK ks p.2 else ks) ks
theorem reach1_sub {ps : List Pr} : ∀ {ks : List Int} {x : Int}, x ∈ ks → x ∈ reach1 ps ks := by
  induction ps with
  | nil => intro ks x h; exact h
  | cons p r ih =>
    intro ks x h
    unfold reach1
    rw [List.foldl_cons]
    refine ih ?_
    split
    · exact mem_insK.mpr (.inl h)
    · exact h
theorem reach1_len {ps : List Pr} : ∀ {ks : List Int}, ks.length ≤ (reach1 ps ks).length := by
  induction ps with
  | nil => intro ks; exact Nat.le_refl _
  | cons p r ih =>
    intro ks
    unfold reach1
    rw [List.foldl_cons]
    refine Nat.le_trans ?_ ih
    split
    · unfold insK; split <;> simp
    · exact Nat.le_refl _
theorem reach1_nodup {ps : List Pr} : ∀ {ks : List Int}, ks.Nodup → (reach1 ps ks).Nodup := by
  induction ps with
  | nil => intro ks h; exact h
  | cons p r ih =>
    intro ks h
    unfold reach1
    rw [List.foldl_cons]
    refine ih ?_
    split
    · exact nodup_insK h
    · exact h
theorem reach1_eq {ps : List Pr} : ∀ {ks : List Int}, (reach1 ps ks).length = ks.length → (reach1 ps ks = ks ∧ ∀ p ∈ ps, p.1 ∈ ks → p.2 ∈ ks) := by
  induction ps with
  | nil => intro ks _; exact ⟨rfl, fun _ h => nomatch h⟩
  | cons p r ih =>
    intro ks h
    unfold reach1 at h ⊢
    rw [List.foldl_cons] at h ⊢
    have l1 := reach1_len (ps := r) (ks := if p.1 ∈ ks then insK ks p.2 else ks)
    unfold reach1 at l1
    by_cases h1 : p.1 ∈ ks
    · rw [if_pos h1] at h l1 ⊢
      by_cases h2 : p.2 ∈ ks
      · have e : insK ks p.2 = ks := by unfold insK; rw [if_pos h2]
        rw [e] at h ⊢
        obtain ⟨e1, e2⟩ := ih h
        refine ⟨e1, fun q hq => ?_⟩
        rcases List.mem_cons.mp hq with rfl | hq
        · exact fun _ => h2
        · exact e2 q hq
      · have e : (insK ks p.2).length = ks.length + 1 := by unfold insK; rw [if_neg h2]; simp
        omega
    · rw [if_neg h1] at h ⊢
      obtain ⟨e1, e2⟩ := ih h
      refine ⟨e1, fun q hq => ?_⟩
      rcases List.mem_cons.mp hq with rfl | hq
      · exact fun z => absurd z h1
      · exact e2 q hq
theorem reach1_from {ps qs : List Pr} (hs : ∀ p ∈ ps, p ∈ qs) (S : Int → Prop) (hS : ∀ x y, S x → (x, y) ∈ qs → S y) : ∀ {ks : List Int}, (∀ x ∈ ks, S x) → ∀ x ∈ reach1 ps ks, S x := by
  induction ps with
  | nil => intro ks h; exact h
  | cons p r ih =>
    intro ks h
    unfold reach1
    rw [List.foldl_cons]
    refine ih (fun q hq => hs q (List.mem_cons_of_mem _ hq)) fun x hx => ?_
    split at hx
    · rcases mem_insK.mp hx with hx | rfl
      · exact h x hx
      · exact hS _ _ (h _ (by assumption)) (hs p List.mem_cons_self)
    · exact h x hx
/-- as often as something new is found -/
def reachN (ps : List Pr) : Nat → List Int → List Int
  | 0, ks => ks
  | n + 1, ks => if (reach1 ps ks).length = ks.length then ks else reachN ps n (reach1 ps ks)
/-- the places that can be new -/
def room (ps : List Pr) (ks : List Int) : Nat := ((once (ps.map (·.2))).filter fun x => decide (x ∉ ks)).length
theorem filter_len_le {α : Type} {p q : α → Bool} : ∀ {xs : List α}, (∀ x ∈ xs, q x = true → p x = true) → (xs.filter q).length ≤ (xs.filter p).length
  | [], _ => Nat.le_refl _
  | x :: xs, h => by
    have ih := filter_len_le (p := p) (q := q) (xs := xs) fun y hy => h y (List.mem_cons_of_mem _ hy)
    have h0 := h x List.mem_cons_self
    cases hq : q x <;> cases hp : p x <;> simp [hq, hp] <;> first | omega | (rw [hq] at h0; simp [hp] at h0)
theorem filter_len_lt {α : Type} {p q : α → Bool} {a : α} : ∀ {xs : List α}, a ∈ xs → p a = true → q a = false → (∀ x ∈ xs, q x = true → p x = true) → (xs.filter q).length < (xs.filter p).length
  | x :: xs, ha, hp, hq, h => by
    rcases List.mem_cons.mp ha with rfl | ha
    · have := filter_len_le (p := p) (q := q) (xs := xs) fun y hy => h y (List.mem_cons_of_mem _ hy)
      simp [hp, hq]; omega
    · have ih := filter_len_lt ha hp hq fun y hy => h y (List.mem_cons_of_mem _ hy)
      have h0 := h x List.mem_cons_self
      cases hq' : q x <;> cases hp' : p x <;> simp [hq', hp'] <;> first | omega | (rw [hq'] at h0; simp [hp'] at h0)
theorem reach1_new {ps qs : List Pr} (hs : ∀ p ∈ ps, p ∈ qs) : ∀ {ks : List Int}, (reach1 ps ks).length ≠ ks.length → ∃ p ∈ ps, p.2 ∉ ks ∧ p.2 ∈ reach1 ps ks := by
  induction ps with
  | nil => intro ks h; exact absurd rfl h
  | cons p r ih =>
    intro ks h
    unfold reach1 at h ⊢
    rw [List.foldl_cons] at h ⊢
    by_cases h1 : p.1 ∈ ks
    · rw [if_pos h1] at h ⊢
      by_cases h2 : p.2 ∈ ks
      · have e : insK ks p.2 = ks := by unfold insK; rw [if_pos h2]
        rw [e] at h ⊢
        obtain ⟨q, hq, h3, h4⟩ := ih (fun q hq => hs q (List.mem_cons_of_mem _ hq)) h
        exact ⟨q, List.mem_cons_of_mem _ hq, h3, h4⟩
      · exact ⟨p, List.mem_cons_self, h2, reach1_sub (mem_insK.mpr (.inr rfl))⟩
    · rw [if_neg h1] at h ⊢
      obtain ⟨q, hq, h3, h4⟩ := ih (fun q hq => hs q (List.mem_cons_of_mem _ hq)) h
      exact ⟨q, List.mem_cons_of_mem _ hq, h3, h4⟩
theorem room_lt {ps : List Pr} {ks : List Int} (h : (reach1 ps ks).length ≠ ks.length) : room ps (reach1 ps ks) < room ps ks := by
  obtain ⟨p, hp, h1, h2⟩ := reach1_new (fun _ h => h) h
  refine filter_len_lt (a := p.2) (mem_once.mpr (List.mem_map_of_mem hp)) (decide_eq_true h1) (by simpa using h2) fun x _ hx => ?_
  simp only [decide_eq_true_eq] at hx ⊢
  exact fun z => hx (reach1_sub z)
theorem room_le (ps : List Pr) (ks : List Int) : room ps ks ≤ ps.length := by
  have h1 := List.length_filter_le (fun x => decide (x ∉ ks)) (once (ps.map (·.2)))
  have h2 := len_once (ps.map (·.2))
  simp only [List.length_map] at h2
  unfold room
  omega
def reach (ps : List Pr) (ks : List Int) : List Int := reachN ps ps.length ks
theorem reachN_closed {ps : List Pr} : ∀ {n : Nat} {ks : List Int}, room ps ks ≤ n → (∀ x ∈ ks, x ∈ reachN ps n ks) ∧ (∀ p ∈ ps, p.1 ∈ reachN ps n ks → p.2 ∈ reachN ps n ks) ∧ (ks.Nodup → (reachN ps n ks).Nodup) ∧ (reach1 ps (reachN ps n ks)).length = (reachN ps n ks).length
  | 0, ks, h => by
    have e : (reach1 ps ks).length = ks.length := by
      by_cases z : (reach1 ps ks).length = ks.length
      · exact z
      · have := room_lt z; omega
    exact ⟨fun x h => h, (reach1_eq e).2, fun h => h, e⟩
  | n + 1, ks, h => by
    unfold reachN
    by_cases z : (reach1 ps ks).length = ks.length
    · rw [if_pos z]
      exact ⟨fun x h => h, (reach1_eq z).2, fun h => h, z⟩
    · rw [if_neg z]
      have hz := room_lt z
      obtain ⟨h1, h2, h3, h4⟩ := reachN_closed (ps := ps) (n := n) (ks := reach1 ps ks) (by omega)
      exact ⟨fun x hx => h1 x (reach1_sub hx), h2, fun hn => h3 (reach1_nodup hn), h4⟩
theorem reachN_from {ps : List Pr} (S : Int → Prop) (hS : ∀ x y, S x → (x, y) ∈ ps → S y) : ∀ {n : Nat} {ks : List Int}, (∀ x ∈ ks, S x) → ∀ x ∈ reachN ps n ks, S x
  | 0, ks, h => h
  | n + 1, ks, h => by
    unfold reachN
    split
    · exact h
    · exact reachN_from S hS (reach1_from (fun _ h => h) S hS h)
theorem mem_reach {ps : List Pr} {ks : List Int} {y : Int} : y ∈ reach ps ks ↔ ∃ x ∈ ks, Rch ps x y := by
  obtain ⟨h1, h2, _⟩ := reachN_closed (ps := ps) (n := ps.length) (ks := ks) (room_le ps ks)
  constructor
  · exact reachN_from (fun y => ∃ x ∈ ks, Rch ps x y) (fun x y ⟨a, ha, r⟩ e => ⟨a, ha, .step r e⟩) (fun x hx => ⟨x, hx, .refl x⟩) y
  · rintro ⟨x, hx, r⟩
    induction r with
    | refl => exact h1 x hx
    | step _ e ih => exact h2 _ e ih
theorem nodup_reach {ps : List Pr} {ks : List Int} (h : ks.Nodup) : (reach ps ks).Nodup := (reachN_closed (ps := ps) (n := ps.length) (ks := ks) (room_le ps ks)).2.2.1 h
/-- a row of roads leads from a place to itself -/
def Rnd (ps : List Pr) : Prop := ∃ p ∈ ps, Rch ps p.2 p.1
def roundB (ps : List Pr) : Bool := ps.any fun p => decide (p.1 ∈ reach ps [p.2])
theorem roundB_iff {ps : List Pr} : roundB ps = true ↔ Rnd ps := by
  unfold roundB Rnd
  simp [List.any_eq_true, mem_reach]
/-- the places can be ranked -/
def Acy (ps : List Pr) : Prop := ∃ r : Int → Int, ∀ p ∈ ps, r p.1 < r p.2
theorem Acy.noRnd {ps : List Pr} (h : Acy ps) : ¬ Rnd ps := by
  obtain ⟨r, hr⟩ := h
  have le : ∀ x y, Rch ps x y → r x ≤ r y := fun x y h => by
    induction h with
    | refl => exact Int.le_refl _
    | step _ e ih => have := hr _ e; exact Int.le_trans ih (Int.le_of_lt this)
  rintro ⟨p, hp, k⟩
  have h1 := le _ _ k
  have h2 := hr p hp
  omega
/-- all places of roads -/
def ends (ps : List Pr) : List Int := once (ps.map (·.1) ++ ps.map (·.2))
theorem mem_ends {ps : List Pr} {p : Pr} (h : p ∈ ps) : p.1 ∈ ends ps ∧ p.2 ∈ ends ps := by
  unfold ends
  rw [mem_once, mem_once]
  exact ⟨List.mem_append_left _ (List.mem_map_of_mem (f := (·.1)) h), List.mem_append_right _ (List.mem_map_of_mem (f := (·.2)) h)⟩
/-- how many places come behind -/
def later (ps : List Pr) (x : Int) : Nat := ((ends ps).filter fun z => decide (z ∈ reach ps [x])).length
theorem later_lt {ps : List Pr} (h : ¬ Rnd ps) {x y : Int} (e : (x, y) ∈ ps) : later ps y < later ps x := by
  refine filter_len_lt (xs := ends ps) (a := x) (p := fun z => decide (z ∈ reach ps [x])) (q := fun z => decide (z ∈ reach ps [y])) (mem_ends e).1 (decide_eq_true (mem_reach.mpr ⟨x, by simp, .refl x⟩)) (decide_eq_false fun z => ?_) fun z _ hz => ?_
  · obtain ⟨a, ha, r⟩ := mem_reach.mp z
    have : a = y := by simpa using ha
    subst this
    exact h ⟨_, e, r⟩
  · obtain ⟨a, ha, r⟩ := mem_reach.mp (of_decide_eq_true hz)
    have : a = y := by simpa using ha
    subst this
    exact decide_eq_true (mem_reach.mpr ⟨x, by simp, (Rch.one e).trans r⟩)
theorem acy_iff {ps : List Pr} : Acy ps ↔ ¬ Rnd ps :=
  ⟨Acy.noRnd, fun h => ⟨fun x => - (later ps x : Int), fun p hp => by have := later_lt h (show (p.1, p.2) ∈ ps from hp); show - (later ps p.1 : Int) < - (later ps p.2 : Int); omega⟩⟩
theorem roundB_acy {ps : List Pr} : roundB ps = false ↔ Acy ps := by
  rw [acy_iff, ← roundB_iff, Bool.not_eq_true]
/-! ### places without a way on are taken out -/
def prune (ps : List Pr) (S : List Int) : List Int := S.filter fun x => ps.any fun p => decide (p.1 = x) && decide (p.2 ∈ S)
def pruneN (ps : List Pr) : Nat → List Int → List Int
  | 0, S => S
  | n + 1, S => pruneN ps n (prune ps S)
theorem prune_len (ps : List Pr) (S : List Int) : (prune ps S).length ≤ S.length := List.length_filter_le _ _
theorem prune_lt {ps : List Pr} (h : Acy ps) {S : List Int} (hS : S ≠ []) : (prune ps S).length < S.length := by
  by_cases z : (prune ps S).length = S.length
  · exfalso
    have all : ∀ x ∈ S, ∃ p ∈ ps, p.1 = x ∧ p.2 ∈ S := fun x hx => by
      have := (List.length_filter_eq_length_iff).mp z x hx
      obtain ⟨p, hp, h2⟩ := List.any_eq_true.mp this
      simp only [Bool.and_eq_true, decide_eq_true_eq] at h2
      exact ⟨p, hp, h2⟩
    have hn := acy_iff.mp h
    have go : ∀ n x, x ∈ S → later ps x ≤ n → False := by
      intro n
      induction n with
      | zero =>
        intro x hx hl
        obtain ⟨p, hp, rfl, h2⟩ := all x hx
        have := later_lt hn (show (p.1, p.2) ∈ ps from hp)
        omega
      | succ n ih =>
        intro x hx hl
        obtain ⟨p, hp, rfl, h2⟩ := all x hx
        have := later_lt hn (show (p.1, p.2) ∈ ps from hp)
        exact ih p.2 h2 (by omega)
    obtain ⟨x, hx⟩ := List.exists_mem_of_ne_nil S hS
    exact go _ x hx (Nat.le_refl _)
  · have := prune_len ps S
    omega
theorem pruneN_acy {ps : List Pr} (h : Acy ps) : ∀ {n : Nat} {S : List Int}, S.length ≤ n → pruneN ps n S = []
  | 0, S, hl => List.eq_nil_of_length_eq_zero (Nat.le_zero.mp hl)
  | n + 1, S, hl => by
    unfold pruneN
    refine pruneN_acy h ?_
    by_cases z : S = []
    · subst z; simp [prune]
    · have := prune_lt h z; omega
theorem pruneN_rnd {ps : List Pr} {C : List Int} (hC : ∀ x ∈ C, ∃ p ∈ ps, p.1 = x ∧ p.2 ∈ C) : ∀ {n : Nat} {S : List Int}, (∀ x ∈ C, x ∈ S) → ∀ x ∈ C, x ∈ pruneN ps n S
  | 0, _, h => h
  | n + 1, S, h => by
    unfold pruneN
    refine pruneN_rnd hC fun x hx => ?_
    obtain ⟨p, hp, h1, h2⟩ := hC x hx
    unfold prune
    rw [List.mem_filter]
    refine ⟨h x hx, List.any_eq_true.mpr ⟨p, hp, ?_⟩⟩
    simp [h1, h p.2 h2]
/-- the places on a row from y to x, both told -/
theorem rch_row {ps : List Pr} {y x : Int} (h : Rch ps y x) : ∃ C : List Int, y ∈ C ∧ x ∈ C ∧ ∀ z ∈ C, z = x ∨ ∃ p ∈ ps, p.1 = z ∧ p.2 ∈ C := by
  induction h with
  | refl => exact ⟨[y], by simp, by simp, fun z hz => .inl (by simpa using hz)⟩
  | @step y z' _ e ih =>
    obtain ⟨C, h1, h2, h3⟩ := ih
    refine ⟨z' :: C, List.mem_cons_of_mem _ h1, List.mem_cons_self, fun w hw => ?_⟩
    rcases List.mem_cons.mp hw with rfl | hw
    · exact .inl rfl
    · rcases h3 w hw with rfl | ⟨p, hp, h4, h5⟩
      · exact .inr ⟨_, e, rfl, List.mem_cons_self⟩
      · exact .inr ⟨p, hp, h4, List.mem_cons_of_mem _ h5⟩
theorem prune_iff (ps : List Pr) : pruneN ps (ps.length + 1) (once (ps.map (·.1))) = [] ↔ roundB ps = false := by
  rw [roundB_acy]
  constructor
  · intro h
    rw [acy_iff]
    rintro ⟨p, hp, r⟩
    obtain ⟨C, h1, h2, h3⟩ := rch_row r
    have hC : ∀ x ∈ C, ∃ p ∈ ps, p.1 = x ∧ p.2 ∈ C := fun x hx => by
      rcases h3 x hx with rfl | h4
      · exact ⟨p, hp, rfl, h1⟩
      · exact h4
    have := pruneN_rnd hC (n := ps.length + 1) (S := once (ps.map (·.1))) (fun x hx => by
      obtain ⟨q, hq, h4, _⟩ := hC x hx
      rw [mem_once, ← h4]
      exact List.mem_map_of_mem (f := (·.1)) hq) p.1 h2
    rw [h] at this
    cases this
  · intro h
    refine pruneN_acy h ?_
    have := len_once (ps.map (·.1))
    simp only [List.length_map] at this
    omega
end L2.HW
/-! T01: webs drawn, bent, judged. -/
namespace L2.HW
open PySem PySem.Spec PyProof.Rows
/-! ### judging -/
def wholeB : PyData → Bool
  | .int i => decide (0 ≤ i)
  | _ => false
def fromB (l : Int) : PyData → Bool
  | .int i => decide (l ≤ i)
  | _ => false
def placeB (m : Int) : PyData → Bool
  | .int i => decide (0 ≤ i) && decide (i < m)
  | _ => false
@[simp] theorem F_is_whole_eq (x : PyData) (L : LH) : F_is_whole [.d x] L = .ok (.d (.bool (wholeB x))) L := by
  cases x <;> simp [F_is_whole, b_is_whole, mkFn, Va.kind, isKind, opGe, wholeB]
@[simp] theorem F_l_whole_eq (x : PyData) (L : LH) : F_l_whole [.d x] L = .ok (.d (.bool (match x with | .int _ => true | _ => false))) L := by
  cases x <;> simp [F_l_whole, b_l_whole, mkFn, Va.kind, isKind]
@[simp] theorem F_is_more_eq (x : PyData) (L : LH) : F_is_more [.d x] L = .ok (.d (.bool (fromB 1 x))) L := by
  cases x with
  | int i =>
    simp [F_is_more, b_is_more, mkFn, wholeB, opGt, fromB]
    by_cases h : 0 ≤ i
    · simp [h]; omega
    · simp [h]; omega
  | _ => simp [F_is_more, b_is_more, mkFn, wholeB, fromB]
@[simp] theorem F_is_place_eq (m : Int) (x : PyData) (L : LH) : F_is_place [.d (.int m), .d x] L = .ok (.d (.bool (placeB m x))) L := by
  cases x with
  | int i =>
    simp [F_is_place, b_is_place, mkFn, wholeB, placeB]
    by_cases h : 0 ≤ i <;> simp [h]
  | _ => simp [F_is_place, b_is_place, mkFn, wholeB, placeB]
@[simp] theorem F_l_is_from_eq (l : Int) (x : PyData) (L : LH) : F_l_is_from [.d x, .d (.int l)] L = .ok (.d (.bool (fromB l x))) L := by
  cases x <;> simp [F_l_is_from, b_l_is_from, mkFn, fromB, opGe]
@[simp] theorem F_l_is_place_eq (m : Int) (x : PyData) (L : LH) : F_l_is_place [.d (.int m), .d x] L = .ok (.d (.bool (placeB m x))) L := by
  cases x with
  | int i =>
    simp [F_l_is_place, b_l_is_place, mkFn, fromB, placeB]
    by_cases h : 0 ≤ i <;> simp [h]
  | _ => simp [F_l_is_place, b_l_is_place, mkFn, fromB, placeB]
def roadB (m e : Int) : PyData → Bool
  | .tuple [.int u, .int v, .int l, .int w] => decide (0 ≤ u) && decide (u < m) && (decide (0 ≤ v) && decide (v < m)) && !decide (u = v) && !decide (u = e) && decide (1 ≤ l) && decide (1 ≤ w)
  | _ => false
theorem placeB_int {m : Int} {x : PyData} (h : placeB m x = true) : ∃ i, x = .int i := by
  cases x <;> simp [placeB] at h ⊢
theorem fromB_int {m : Int} {x : PyData} (h : fromB m x = true) : ∃ i, x = .int i := by
  cases x <;> simp [fromB] at h ⊢
theorem shaped_int (i : Int) : SeqAt.shaped (.int i) = true := by simp [SeqAt.shaped, PyData.canLay0, PyData.depth]
theorem shaped_bool (i : Bool) : SeqAt.shaped (.bool i) = true := by simp [SeqAt.shaped, PyData.canLay0, PyData.depth]
theorem seq_ints (xs : List PyData) (L : LH) : (Va.d (.tuple xs)).seq L = some (xs.map Va.d) := rfl
def four : List PyData → Option (PyData × PyData × PyData × PyData)
  | [a, b, c, d] => some (a, b, c, d)
  | _ => none
theorem four_some {xs : List PyData} (h : xs.length = 4) : ∃ a b c d, xs = [a, b, c, d] := by
  match xs, h with
  | [a, b, c, d], _ => exact ⟨a, b, c, d, rfl⟩
theorem roadB_tup {m e : Int} {xs : List PyData} (h : xs.length ≠ 4) : roadB m e (.tuple xs) = false := by
  unfold roadB
  split
  · rename_i h2; cases h2; simp at h
  · rfl
theorem roadB_4 {m e : Int} (u v l w : PyData) : roadB m e (.tuple [u, v, l, w]) = (placeB m u && placeB m v && !PyData.eqv u v && !PyData.eqv u (.int e) && fromB 1 l && fromB 1 w) := by
  cases u <;> first | rfl | skip
  cases v <;> first | simp [roadB, placeB]
  cases l <;> first | simp [roadB, fromB]
  cases w <;> first | simp [roadB, fromB]
  rename_i u v l w
  simp [roadB, placeB, fromB, eqv_int]
@[simp] theorem F_is_road_eq (m e : Int) (x : PyData) (L : LH) : F_is_road [.d (.int m), .d (.int e), .d x] L = .ok (.d (.bool (roadB m e x))) L := by
  cases x with
  | tuple xs =>
    by_cases h : xs.length = 4
    · obtain ⟨u, v, l, w, rfl⟩ := four_some h
      rw [roadB_4]
      simp [F_is_road, b_is_road, mkFn, Va.kind, isKind, shaped_int, eqv_int]
      by_cases h1 : placeB m u
      · obtain ⟨u, rfl⟩ := placeB_int h1
        by_cases h2 : placeB m v
        · obtain ⟨v, rfl⟩ := placeB_int h2
          by_cases h3 : u = v <;> by_cases h4 : u = e <;> by_cases h5 : fromB 1 l <;> simp [h1, h2, shaped_int, eqv_int, h3, h4, h5]
          all_goals (try subst h3) <;> simp_all
        · simp [h1, h2]
      · simp [h1]
    · rw [roadB_tup h]
      have h' : ¬ ((xs.length : Int) = 4) := by omega
      simp [F_is_road, b_is_road, mkFn, Va.kind, isKind, shaped_int, eqv_int, h, h']
  | _ => simp [F_is_road, b_is_road, mkFn, Va.kind, isKind, roadB]
@[simp] theorem F_l_is_road_eq (m e : Int) (x : PyData) (L : LH) : F_l_is_road [.d (.int m), .d (.int e), .d x] L = .ok (.d (.bool (roadB m e x))) L := by
  cases x with
  | tuple xs =>
    by_cases h : xs.length = 4
    · obtain ⟨u, v, l, w, rfl⟩ := four_some h
      rw [roadB_4]
      simp [F_l_is_road, b_l_is_road, mkFn, Va.kind, isKind, shaped_int, eqv_int]
      by_cases h1 : placeB m u
      · obtain ⟨u, rfl⟩ := placeB_int h1
        by_cases h2 : placeB m v
        · obtain ⟨v, rfl⟩ := placeB_int h2
          by_cases h3 : u = v <;> by_cases h4 : u = e <;> by_cases h5 : fromB 1 l <;> simp [h1, h2, shaped_int, eqv_int, h3, h4, h5]
          all_goals (try subst h3) <;> simp_all
        · simp [h1, h2]
      · simp [h1]
    · rw [roadB_tup h]
      have h' : ¬ ((xs.length : Int) = 4) := by omega
      simp [F_l_is_road, b_l_is_road, mkFn, Va.kind, isKind, shaped_int, eqv_int, h, h']
  | _ => simp [F_l_is_road, b_l_is_road, mkFn, Va.kind, isKind, roadB]
def webB : PyData → Bool
  | .tuple [.int m, b, e, .tuple rs] => decide (2 ≤ m) && placeB m b && placeB m e && !PyData.eqv b e && match e with
    | .int e => rs.all (roadB m e)
    | _ => false
  | _ => false
theorem webB_tup {xs : List PyData} (h : xs.length ≠ 4) : webB (.tuple xs) = false := by
  unfold webB
  split
  · rename_i h2; cases h2; simp at h
  · rfl
/-- its roads are not too many to be listed -/
def fewB : PyData → Prop
  | .tuple [_, _, _, .tuple rs] => rs.length ≤ sizeLine
  | _ => True
theorem cAll_map (rs : List PyData) (p : PyData → Bool) (L : LH) : cAll [.d (.list (rs.map fun x => .bool (p x)))] L = .ok (.d (.bool (rs.all p))) L := by
  have e : boolsOf ((rs.map fun x => PyData.bool (p x)).map Va.d) = some (rs.map p) := by
    induction rs with
    | nil => rfl
    | cons a r ih => simp only [List.map_cons, boolsOf, ih]; rfl
  have e2 : Va.items L (.d (.list (rs.map fun x => .bool (p x)))) = some ((rs.map fun x => PyData.bool (p x)).map Va.d) := rfl
  simp only [cAll, one, e2, e]
  congr 3
  rw [List.all_map]
  rfl
theorem webB_4 {m b e r : PyData} : webB (.tuple [m, b, e, r]) = (match m, e, r with | .int m, .int e, .tuple rs => decide (2 ≤ m) && placeB m b && placeB m (.int e) && !PyData.eqv b (.int e) && rs.all (roadB m e) | _, _, _ => false) := by
  cases m <;> try rfl
  cases r <;> try (cases e <;> rfl)
  cases e <;> simp [webB]
theorem F_is_right_web_eq (x : PyData) (hx : fewB x) (L : LH) : F_is_right_web [.d x] L = .ok (.d (.bool (webB x))) L := by
  cases x with
  | tuple xs =>
    by_cases h : xs.length = 4
    · obtain ⟨m, b, e, r, rfl⟩ := four_some h
      rw [webB_4]
      by_cases h0 : wholeB m
      · obtain ⟨m, rfl⟩ : ∃ i, m = .int i := by cases m <;> simp [wholeB] at h0 ⊢
        by_cases h1 : m < 2
        · have : ¬ 2 ≤ m := by omega
          simp [F_is_right_web, b_is_right_web, mkFn, Va.kind, isKind, shaped_int, eqv_int, h0, h1, atI, ixN]
          cases e <;> cases r <;> simp [this]
        · have h1' : 2 ≤ m := by omega
          simp [F_is_right_web, b_is_right_web, mkFn, Va.kind, isKind, shaped_int, eqv_int, h0, h1, atI, ixN]
          by_cases h2 : placeB m b
          · obtain ⟨b, rfl⟩ := placeB_int h2
            by_cases h3 : placeB m e
            · obtain ⟨e, rfl⟩ := placeB_int h3
              by_cases h4 : b = e
              · subst h4
                simp [h2, h3, shaped_int, eqv_int]
                cases r <;> simp
              · simp [h2, h3, h4, shaped_int, eqv_int, h1']
                cases r with
                | tuple rs =>
                  have hz : rs.length ≤ sizeLine := hx
                  simp [Va.kind, isKind]
                  rw [fComp_map (xs := rs) (h := fun x => .bool (roadB m e x)) (by simp [srcOf]) hz (fun x _ => ⟨_, rfl, by simp [wipeE]⟩)]
                  have h2' : 0 ≤ b ∧ b < m := by simpa [placeB] using h2
                  simp [cAll_map, h2, h3, h4, h1']
                | _ => simp [Va.kind, isKind]
            · simp [h2, h3]
              cases e <;> cases r <;> simp_all
          · simp [h2]
            cases e <;> cases r <;> simp_all
      · simp [F_is_right_web, b_is_right_web, mkFn, Va.kind, isKind, shaped_int, eqv_int, h0, atI, ixN]
        cases m <;> cases e <;> cases r <;> simp [wholeB] at h0 ⊢
        all_goals omega
    · rw [webB_tup h]
      have h' : ¬ ((xs.length : Int) = 4) := by omega
      simp [F_is_right_web, b_is_right_web, mkFn, Va.kind, isKind, shaped_int, eqv_int, h, h']
  | _ => simp [F_is_right_web, b_is_right_web, mkFn, Va.kind, isKind, webB]
theorem F_is_web_eq (x : PyData) (hx : fewB x) (L : LH) : F_is_web [.d x] L = .ok (.d (.bool (webB x))) L := by
  simp [F_is_web, b_is_web, mkFn, F_is_right_web_eq x hx]

end L2.HW
/-! TR: what is reached, rounds, shapes: the program's functions. -/
namespace L2.HW
open PySem PySem.Spec PyProof.Rows
abbrev dP (p : Pr) : PyData := .tuple [.int p.1, .int p.2]
abbrev vP (p : Pr) : Va := .d (dP p)
abbrev vI (i : Int) : Va := .d (.int i)
abbrev tt : Va := .d (.bool true)
theorem app_get {L : LH} {o : Option Ob} : (L ++ [o])[L.length]? = some o := by simp
theorem app_set {L : LH} {o o' : Option Ob} : (L ++ [o]).set L.length o' = L ++ [o'] := by rw [List.set_append_right _ _ (Nat.le_refl _)]; simp
theorem dget_di {L : LH} {n : Nat} {kvs : List (Int × Va)} (h : L[n]? = some (some (.di kvs))) (i : Int) : Va.dget L (.loc n) (vI i) = some (alook kvs i) := by simp [Va.dget, h]
theorem reach_body {L : LH} {ks : List Int} (p : Pr) (w1 w2 : Option Va) (s6 s3 : Option Va) (w pl : Va) (hz : ks.length < sizeLine) :
    b_reached_1 [some w, some pl, some (.loc L.length), s3, some (vI p.1), some (vI p.2), s6] (L ++ [some (.di (tts ks tt))]) = .nx [some w, some pl, some (.loc L.length), s3, some (vI p.1), some (vI p.2), s6] (L ++ [some (.di (tts (if p.1 ∈ ks then insK ks p.2 else ks) tt))]) := by
  have e := aput_tts tt p.2 ks
  by_cases h : p.1 ∈ ks
  · simp [b_reached_1, Va.dget, alook_tts, h, tts_length, hz, e]
  · simp [b_reached_1, Va.dget, alook_tts, h]
theorem reach_loop {L : LH} (w pl : Va) (s3 s4 s5 s6 : Option Va) (ps : List Pr) (ks : List Int) (hz : ks.length + ps.length < sizeLine) :
    ∃ s4' s5', forL (tTupT 2 (tgCons (tN 4) (tgCons (tN 5) tgNil))) b_reached_1 (ps.map vP) [some w, some pl, some (.loc L.length), s3, s4, s5, s6] (L ++ [some (.di (tts ks tt))]) = .nx [some w, some pl, some (.loc L.length), s3, s4', s5', s6] (L ++ [some (.di (tts (reach1 ps ks) tt))]) := by
  induction ps generalizing ks s4 s5 with
  | nil => exact ⟨s4, s5, rfl⟩
  | cons p r ih =>
    simp only [List.length_cons] at hz
    have hl : (if p.1 ∈ ks then insK ks p.2 else ks).length ≤ ks.length + 1 := by
      split
      · unfold insK; split <;> simp
      · omega
    obtain ⟨a, b, e⟩ := ih (some (vI p.1)) (some (vI p.2)) (if p.1 ∈ ks then insK ks p.2 else ks) (by omega)
    refine ⟨a, b, ?_⟩
    rw [List.map_cons]
    unfold forL
    have e2 := reach_body (L := L) p none none s6 s3 w pl (ks := ks) (by omega)
    simp only [u_tTupT, seq_tuple, List.map_cons, List.map_nil, List.length_cons, List.length_nil, if_true, u_tgCons, u_tgNil, u_tN, Res.bind_ok, List.set_cons_succ, List.set_cons_zero]
    rw [e2]
    exact e
theorem srcV_of {i : Nat} {env : En} {L : LH} {w : Va} {p : List Va × Option Nat} (h : env[i]? = some (some w)) (hs : srcOf w L = some p) : srcV (eVar i) env L = .ok p L := by
  simp [h, hs]
theorem reachN_succ {ps : List Pr} {n : Nat} {ks : List Int} (h : (reach1 ps ks).length ≠ ks.length) : reachN ps (n + 1) ks = reachN ps n (reach1 ps ks) := by
  rw [reachN, if_neg h]
theorem reachN_stay {ps : List Pr} : ∀ {n : Nat} {ks : List Int}, (reach1 ps ks).length = ks.length → reachN ps n ks = ks
  | 0, _, _ => rfl
  | n + 1, _, h => by rw [reachN, if_pos h]
theorem room_ins {ps : List Pr} {c : List Int} {x : Int} (h : x ∈ ps.map (·.2)) (hx : x ∉ c) : room ps (c ++ [x]) + 1 ≤ room ps c := by
  have := filter_len_lt (xs := once (ps.map (·.2))) (a := x) (p := fun z => decide (z ∉ c)) (q := fun z => decide (z ∉ c ++ [x])) (mem_once.mpr h) (by simpa using hx) (by simp) (fun z _ hz => by
    simp only [List.mem_append, List.mem_singleton, not_or, decide_eq_true_eq] at hz ⊢
    exact hz.1)
  exact this
theorem room_sum {ps : List Pr} : ∀ {qs : List Pr} {c : List Int}, (∀ q ∈ qs, q ∈ ps) → (reach1 qs c).length + room ps (reach1 qs c) ≤ c.length + room ps c
  | [], c, _ => Nat.le_refl _
  | q :: r, c, h => by
    unfold reach1
    rw [List.foldl_cons]
    refine Nat.le_trans (room_sum (qs := r) (ps := ps) fun q hq => h q (List.mem_cons_of_mem _ hq)) ?_
    split
    · unfold insK
      split
      · exact Nat.le_refl _
      · have := room_ins (ps := ps) (c := c) (x := q.2) (List.mem_map_of_mem (f := (·.2)) (h q List.mem_cons_self)) (by assumption)
        simp only [List.length_append, List.length_singleton]
        omega
    · exact Nat.le_refl _
theorem settle_tts {L : LH} {n0 k : Nat} : ∀ xs : List Int, mapO (fun p : Int × Va => match settle L n0 k p.2 with
        | some (.d x) => some (p.1, x)
        | _ => none) (tts xs tt) = some (xs.map fun k => (k, PyData.bool true))
  | [] => rfl
  | x :: r => by
    have ih := settle_tts (L := L) (n0 := n0) (k := k) r
    unfold tts at ih ⊢
    rw [List.map_cons]
    unfold mapO
    rw [ih]
    simp
/-- reached: walked in a list or tuple of pairs -/
theorem F_reached_eq {w : Va} {ps : List Pr} {ks : List Int} {L : LH} (hw : ∀ L', srcOf w (L ++ L') = some (ps.map vP, none)) (hz : ks.length + 2 * ps.length < sizeLine) :
    F_reached [w, .d (.list (ks.map .int))] L = .ok (.dct ((reach ps (once ks)).map fun k => (k, PyData.bool true))) L := by
  have hz1 : ks.length ≤ sizeLine := by omega
  have wh := while_inv (t := tVal (eOp opNe (eVar 3) (eCallB cLen (aCons (eVar 2) aNil)))) (body := b_reached_2)
    (I := fun n env M => ∃ (c : List Int) (sz : Int) (a b : Option Va), env = [some w, some (.d (.list (ks.map .int))), some (.loc L.length), some (vI sz), a, b, none] ∧ M = L ++ [some (.di (tts c tt))] ∧ (sz = c.length → (reach1 ps c).length = c.length) ∧ (∃ k, reach ps (once ks) = reachN ps k c ∧ room ps c ≤ k) ∧ n = 2 * room ps c + (if sz = c.length then 0 else 1) ∧ c.length + room ps c ≤ ks.length + ps.length)
    (J := fun env M => ∃ (sz : Int) (a b : Option Va), env = [some w, some (.d (.list (ks.map .int))), some (.loc L.length), some (vI sz), a, b, none] ∧ M = L ++ [some (.di (tts (reach ps (once ks)) tt))])
    ?_ (n := 2 * room ps (once ks) + (if (0 : Int) = (once ks).length then 0 else 1)) (env := [some w, some (.d (.list (ks.map .int))), some (.loc L.length), some (vI 0), none, none, none]) (L := L ++ [some (.di (tts (once ks) tt))]) ?_
  · obtain ⟨env', L', e, sz, a, b, rfl, rfl⟩ := wh
    have dc : fDComp (srcV (eVar 1)) (tN 6) tTrue (eVar 6) (eC (.bool true)) [6] [some w, some (.d (.list (ks.map .int))), none, none, none, none, none] L = .ok (.di (tts (once ks) tt)) L := by
      have := fDComp_tts (s := srcV (eVar 1)) (g := tN 6) (t := tTrue) (fk := eVar 6) (fv := eC (.bool true)) (vs := [6]) (env := [some w, some (.d (.list (ks.map .int))), none, none, none, none, none]) (L := L) (w := tt) vI (fun _ => true) (fun i => i) ks (by simp [srcOf]) hz1 (fun x _ => ⟨_, rfl, rfl, fun _ => ⟨by simp [wipeE], rfl⟩⟩)
      rw [this, List.filter_eq_self.mpr (fun _ _ => rfl)]
      simp
    have st : settle (L ++ [some (.di (tts (reach ps (once ks)) tt))]) L.length 9 (.loc L.length) = some (.dct ((reach ps (once ks)).map fun k => (k, PyData.bool true))) := by
      rw [settle_loc, if_neg (by simp), app_get]
      have := settle_tts (L := L ++ [some (.di (tts (reach ps (once ks)) tt))]) (n0 := L.length) (k := 8) (reach ps (once ks))
      show (match mapO _ (tts (reach ps (once ks)) tt) with | some ks => some (Va.dct ks) | none => none) = _
      exact this ▸ rfl
    simp only [F_reached, b_reached, mkFn, List.length_cons, List.length_nil, if_true, List.map_cons, List.map_nil, List.replicate, List.cons_append, List.nil_append, u_sSeq, u_sSet, u_eNew, dc, Res.bind_ok, then_ok, List.set_cons_succ, List.set_cons_zero, u_eC, e, u_sRet]
    simp [outV, st]
  · rintro n env M ⟨c, sz, a, b, rfl, rfl, h2, ⟨k, h4, h5⟩, rfl, h6⟩
    have tst : tVal (eOp opNe (eVar 3) (eCallB cLen (aCons (eVar 2) aNil))) [some w, some (.d (.list (ks.map .int))), some (.loc L.length), some (vI sz), a, b, none] (L ++ [some (.di (tts c tt))]) = .ok (!decide (sz = (c.length : Int))) (L ++ [some (.di (tts c tt))]) := by
      simp [Va.seq, tts_length, eqv_int]
    rw [tst]
    by_cases hs : sz = (c.length : Int)
    · left
      rw [decide_eq_true hs]
      refine ⟨_, rfl, sz, a, b, rfl, ?_⟩
      rw [h4, reachN_stay (h2 hs)]
    · right
      rw [decide_eq_false hs]
      obtain ⟨a', b', el⟩ := reach_loop (L := L) w (.d (.list (ks.map .int))) (some (vI (c.length : Int))) a b none ps c (by omega)
      refine ⟨_, rfl, [some w, some (.d (.list (ks.map .int))), some (.loc L.length), some (vI (c.length : Int)), a', b', none], L ++ [some (.di (tts (reach1 ps c) tt))], .inl ?_, ?_⟩
      · have hw' := hw [some (.di (tts c tt))]
        have hs0 : srcV (eVar 0) [some w, some (.d (.list (ks.map .int))), some (.loc L.length), some (vI (c.length : Int)), a, b, none] (L ++ [some (.di (tts c tt))]) = .ok (ps.map vP, none) (L ++ [some (.di (tts c tt))]) := srcV_of (i := 0) (w := w) rfl hw'
        simp only [b_reached_2, u_sSeq, u_sSet, u_eCallB, u_aCons, u_eVar, u_aNil, List.getElem?_cons_zero, List.getElem?_cons_succ, Res.bind_ok, then_ok, u_cLen, app_get, Va.seq, tts_length, List.set_cons_succ, List.set_cons_zero, sFor, hs0, lockL_none, el, openOut_nx, openL_none]
      · have rs := room_sum (ps := ps) (qs := ps) (c := c) fun _ h => h
        by_cases hn : (reach1 ps c).length = c.length
        · have he := (reach1_eq hn).1
          refine ⟨_, ?_, reach1 ps c, (c.length : Int), a', b', rfl, rfl, fun _ => by rw [he, he], ⟨k, by rw [he]; exact h4, by rw [he]; exact h5⟩, rfl, by rw [he]; exact h6⟩
          rw [he, if_neg hs, if_pos rfl]
          omega
        · have hr := room_lt hn
          have hne : ¬ ((c.length : Int) = ((reach1 ps c).length : Int)) := by omega
          refine ⟨_, ?_, reach1 ps c, (c.length : Int), a', b', rfl, rfl, fun z => absurd z hne, ?_, rfl, by omega⟩
          · rw [if_neg hs, if_neg hne]; omega
          · cases k with
            | zero => omega
            | succ k => exact ⟨k, by rw [h4, reachN_succ hn], by omega⟩
  · refine ⟨once ks, 0, none, none, rfl, rfl, fun z => ?_, ⟨ps.length, rfl, room_le _ _⟩, rfl, ?_⟩
    · have : once ks = [] := List.eq_nil_of_length_eq_zero (by omega)
      rw [this]
      have : ∀ qs : List Pr, reach1 qs [] = [] := fun qs => by
        induction qs with
        | nil => rfl
        | cons q r ih => unfold reach1 at ih ⊢; rw [List.foldl_cons, if_neg (by simp)]; exact ih
      rw [this]
    · have := room_le ps (once ks)
      have := len_once ks
      omega
end L2.HW
/-! TJ: what is a shape: both judges. -/
namespace L2.HW
open PySem PySem.Spec PyProof.Rows
def pairB (m e : Int) : PyData → Bool
  | .tuple [.int u, .int v] => decide (0 ≤ u) && decide (u < m) && (decide (0 ≤ v) && decide (v < m)) && !decide (u = v) && !decide (u = e)
  | _ => false
def prOf : PyData → Pr
  | .tuple [.int u, .int v] => (u, v)
  | _ => (0, 0)
theorem pairB_pr {m e : Int} {x : PyData} (h : pairB m e x = true) : x = dP (prOf x) ∧ 0 ≤ (prOf x).1 ∧ (prOf x).1 < m ∧ 0 ≤ (prOf x).2 ∧ (prOf x).2 < m ∧ (prOf x).1 ≠ (prOf x).2 ∧ (prOf x).1 ≠ e := by
  unfold pairB at h
  split at h
  · rename_i u v
    simp only [Bool.and_eq_true, Bool.not_eq_true', decide_eq_true_eq, decide_eq_false_iff_not] at h
    exact ⟨rfl, h.1.1.1.1, h.1.1.1.2, h.1.1.2.1, h.1.1.2.2, h.1.2, h.2⟩
  · cases h
theorem pairs_pr {m e : Int} {rs : List PyData} (h : rs.all (pairB m e) = true) : rs = (rs.map prOf).map dP := by
  rw [List.map_map]
  have : ∀ x ∈ rs, (dP ∘ prOf) x = x := fun x hx => (pairB_pr (List.all_eq_true.mp h x hx)).1.symm
  exact ((List.map_congr_left this).trans (List.map_id' rs)).symm
theorem pairB_tup {m e : Int} {xs : List PyData} (h : xs.length ≠ 2) : pairB m e (.tuple xs) = false := by
  unfold pairB
  split
  · rename_i h2; cases h2; simp at h
  · rfl
theorem two_some {xs : List PyData} (h : xs.length = 2) : ∃ a b, xs = [a, b] := by
  match xs, h with
  | [a, b], _ => exact ⟨a, b, rfl⟩
theorem pairB_2 {m e : Int} (u v : PyData) : pairB m e (.tuple [u, v]) = (placeB m u && placeB m v && !PyData.eqv u v && !PyData.eqv u (.int e)) := by
  cases u <;> first | rfl | skip
  cases v <;> first | simp [pairB, placeB]
  rename_i u v
  simp [pairB, placeB, eqv_int]
@[simp] theorem F_is_pair_eq (m e : Int) (x : PyData) (L : LH) : F_is_pair [.d (.int m), .d (.int e), .d x] L = .ok (.d (.bool (pairB m e x))) L := by
  cases x with
  | tuple xs =>
    by_cases h : xs.length = 2
    · obtain ⟨u, v, rfl⟩ := two_some h
      rw [pairB_2]
      have hc : fComp (srcV (eVar 2)) (tN 3) tTrue (eCall F_is_place (aCons (eVar 0) (aCons (eVar 3) aNil))) [3] [some (.d (.int m)), some (.d (.int e)), some (.d (.tuple [u, v])), none] L = .ok (.lst [.d (.bool (placeB m u)), .d (.bool (placeB m v))]) L := by
        rw [fComp_map (xs := [u, v]) (h := fun x => .bool (placeB m x)) (by simp [srcOf]) (by simp [sizeLine_eq]) (fun x _ => ⟨_, rfl, by simp [wipeE]⟩)]
        rfl
      have ha := cAll_map [u, v] (placeB m) L
      simp only [List.map_cons, List.map_nil] at ha
      simp [F_is_pair, b_is_pair, mkFn, Va.kind, isKind, shaped_int, eqv_int, hc, ha]
      by_cases h1 : placeB m u
      · obtain ⟨u, rfl⟩ := placeB_int h1
        by_cases h2 : placeB m v
        · obtain ⟨v, rfl⟩ := placeB_int h2
          simp [h1, h2, shaped_int, eqv_int, Va.seq, atI, ixN]
          by_cases h3 : u = v <;> simp [h3]
        · simp [h1, h2]
      · simp [h1]
    · rw [pairB_tup h]
      have h' : ¬ ((xs.length : Int) = 2) := by omega
      simp [F_is_pair, b_is_pair, mkFn, Va.kind, isKind, shaped_int, eqv_int, h, h']
  | _ => simp [F_is_pair, b_is_pair, mkFn, Va.kind, isKind, pairB]
theorem once1 (v : Int) : once [v] = [v] := by simp [once, insK]
theorem F_has_round_eq {w : Va} {ps : List Pr} {L : LH} (hw : ∀ L', srcOf w L' = some (ps.map vP, none)) (hz : 1 + 2 * ps.length < sizeLine) :
    F_has_round [w] L = .ok (.d (.bool (roundB ps))) L := by
  have hc : fComp (srcV (eVar 0)) (tTupT 2 (tgCons (tN 1) (tgCons (tN 2) tgNil))) tTrue (eOp (opIn false) (eVar 1) (eCall F_reached (aCons (eVar 0) (aCons (eDat (fLst (aCons (eVar 2) aNil))) aNil)))) [1, 2] [some w, none, none] L = .ok (.lst ((ps.map fun p => PyData.bool (decide (p.1 ∈ reach ps [p.2]))).map Va.d)) L := by
    rw [fComp_tym (enc := vP) (h := fun p => .d (.bool (decide (p.1 ∈ reach ps [p.2])))) (xs := ps) (by simp [hw]) (by omega) (fun p _ => ⟨_, rfl, by
      have e := F_reached_eq (w := w) (ps := ps) (ks := [p.2]) (L := L) (fun L' => hw _) (by simpa using hz)
      simp only [List.map_cons, List.map_nil, once1] at e
      have al := alook_tts (κ := Int) tt p.1 (reach ps [p.2])
      have hd : (Va.dct ((reach ps [p.2]).map fun k => (k, PyData.bool true))).dget L (vI p.1) = some (if p.1 ∈ reach ps [p.2] then some tt else none) := by
        simp only [Va.dget]
        congr 1
        have : ∀ ks : List Int, (alook (ks.map fun k => (k, PyData.bool true)) p.1).map Va.d = if p.1 ∈ ks then some tt else none := fun ks => by
          induction ks with
          | nil => rfl
          | cons a r ih =>
            rw [List.map_cons, alook_cons]
            by_cases h : a = p.1
            · simp [h]
            · have h' : ¬ p.1 = a := fun z => h z.symm
              rw [if_neg h, ih]; simp [h']
        exact this _
      simp only [wipeE, List.set_cons_succ, List.set_cons_zero, u_eOp, u_eVar, List.getElem?_cons_succ, List.getElem?_cons_zero, Res.bind_ok, u_eCall, u_aCons, u_aNil, u_eDat, u_fLst, List.length_cons, List.length_nil]
      simp [sizeLine_eq, e, hd]
      by_cases h : p.1 ∈ reach ps [p.2] <;> simp [h]⟩)]
    simp
  have ha := cAll_map
  have e2 : ∀ (rs : List Pr) (p : Pr → Bool), cAny [.d (.list (rs.map fun x => PyData.bool (p x)))] L = .ok (.d (.bool (rs.any p))) L := fun rs p => by
    have e : boolsOf ((rs.map fun x => PyData.bool (p x)).map Va.d) = some (rs.map p) := by
      induction rs with
      | nil => rfl
      | cons a r ih => simp only [List.map_cons, boolsOf, ih]; rfl
    have e2 : Va.items L (.d (.list (rs.map fun x => .bool (p x)))) = some ((rs.map fun x => PyData.bool (p x)).map Va.d) := rfl
    simp only [cAny, one, e2, e]
    congr 3
    rw [List.any_map]
    rfl
  simp only [F_has_round, b_has_round, mkFn, List.length_cons, List.length_nil, if_true, List.map_cons, List.map_nil, List.replicate, List.cons_append, List.nil_append, u_sRet, u_eCallB, u_aCons, u_aNil, u_eDat, hc, Res.bind_ok, va_lst, e2, then_ok]
  simp [roundB]
def shapeB : PyData → Bool
  | .tuple [.int m, b, e, .tuple rs] => decide (2 ≤ m) && placeB m b && placeB m e && !PyData.eqv b e && match e with
    | .int e => rs.all (pairB m e) && !roundB (rs.map prOf)
    | _ => false
  | _ => false
theorem shapeB_tup {xs : List PyData} (h : xs.length ≠ 4) : shapeB (.tuple xs) = false := by
  unfold shapeB
  split
  · rename_i h2; cases h2; simp at h
  · rfl
theorem shapeB_4 {m b e r : PyData} : shapeB (.tuple [m, b, e, r]) = (match m, e, r with | .int m, .int e, .tuple rs => decide (2 ≤ m) && placeB m b && placeB m (.int e) && !PyData.eqv b (.int e) && (rs.all (pairB m e) && !roundB (rs.map prOf)) | _, _, _ => false) := by
  cases m <;> try rfl
  cases r <;> try (cases e <;> rfl)
  cases e <;> simp [shapeB]
/-- its roads are not too many -/
def fewS : PyData → Prop
  | .tuple [_, _, _, .tuple rs] => 2 + 2 * rs.length < sizeLine
  | _ => True
theorem F_is_right_shape_eq (x : PyData) (hx : fewS x) (L : LH) : F_is_right_shape [.d x] L = .ok (.d (.bool (shapeB x))) L := by
  cases x with
  | tuple xs =>
    by_cases h : xs.length = 4
    · obtain ⟨m, b, e, r, rfl⟩ := four_some h
      rw [shapeB_4]
      by_cases h0 : wholeB m
      · obtain ⟨m, rfl⟩ : ∃ i, m = .int i := by cases m <;> simp [wholeB] at h0 ⊢
        by_cases h1 : m < 2
        · have : ¬ 2 ≤ m := by omega
          simp [F_is_right_shape, b_is_right_shape, mkFn, Va.kind, isKind, shaped_int, eqv_int, h0, h1, atI, ixN]
          cases e <;> cases r <;> simp [this]
        · have h1' : 2 ≤ m := by omega
          simp [F_is_right_shape, b_is_right_shape, mkFn, Va.kind, isKind, shaped_int, eqv_int, h0, h1, atI, ixN]
          by_cases h2 : placeB m b
          · obtain ⟨b, rfl⟩ := placeB_int h2
            by_cases h3 : placeB m e
            · obtain ⟨e, rfl⟩ := placeB_int h3
              by_cases h4 : b = e
              · subst h4
                simp [h2, h3, shaped_int, eqv_int]
                cases r <;> simp
              · simp [h2, h3, h4, shaped_int, eqv_int, h1']
                cases r with
                | tuple rs =>
                  have hz : 2 + 2 * rs.length < sizeLine := hx
                  simp [Va.kind, isKind]
                  rw [fComp_map (xs := rs) (h := fun x => .bool (pairB m e x)) (by simp [srcOf]) (by omega) (fun x _ => ⟨_, rfl, by simp [wipeE]⟩)]
                  have h2' : 0 ≤ b ∧ b < m := by simpa [placeB] using h2
                  simp [cAll_map, h2, h3, h4, h1']
                  by_cases ha : ∀ x, x ∈ rs → pairB m e x = true
                  case neg =>
                    simp [ha]
                  case pos =>
                    have er := pairs_pr (List.all_eq_true.mpr ha)
                    have hr := F_has_round_eq (w := .d (.tuple rs)) (ps := rs.map prOf) (L := L) (fun L' => by
                      conv => lhs; rw [er]
                      simp [srcOf]) (by simp; omega)
                    simp only [hr, Res.bind_ok, if_pos ha, List.all_eq_true.mpr ha]
                    simp
                | _ => simp [Va.kind, isKind]
            · simp [h2, h3]
              cases e <;> cases r <;> simp_all
          · simp [h2]
            cases e <;> cases r <;> simp_all
      · simp [F_is_right_shape, b_is_right_shape, mkFn, Va.kind, isKind, shaped_int, eqv_int, h0, atI, ixN]
        cases m <;> cases e <;> cases r <;> simp [wholeB] at h0 ⊢
        all_goals omega
    · rw [shapeB_tup h]
      have h' : ¬ ((xs.length : Int) = 4) := by omega
      simp [F_is_right_shape, b_is_right_shape, mkFn, Va.kind, isKind, shaped_int, eqv_int, h, h']
  | _ => simp [F_is_right_shape, b_is_right_shape, mkFn, Va.kind, isKind, shapeB]
theorem F_is_shape_eq (x : PyData) (hx : fewS x) (L : LH) : F_is_shape [.d x] L = .ok (.d (.bool (shapeB x))) L := by
  simp [F_is_shape, b_is_shape, mkFn, F_is_right_shape_eq x hx]
end L2.HW
/-! TK: the law's judge of shapes. -/
namespace L2.HW
open PySem PySem.Spec PyProof.Rows
theorem F_l_once_eq {w : Va} {ks : List Int} {L : LH} (hw : ∀ L', srcOf w L' = some (ks.map vI, none)) (hz : ks.length < sizeLine) : F_l_once [w] L = .ok (.d (.list ((once ks).map .int))) L := by
  have loop : ∀ (xs c : List Int) (a : Option Va), c.length + xs.length < sizeLine → ∃ a', forL (tN 2) b_l_once_1 (xs.map vI) [some w, some (.loc L.length), a] (L ++ [some (.di (tts c tt))]) = .nx [some w, some (.loc L.length), a'] (L ++ [some (.di (tts (xs.foldl insK c) tt))]) := by
    intro xs
    induction xs with
    | nil => intro c a _; exact ⟨a, rfl⟩
    | cons x r ih =>
      intro c a h
      simp only [List.length_cons] at h
      have hl : (insK c x).length ≤ c.length + 1 := by unfold insK; split <;> simp
      obtain ⟨a', e⟩ := ih (insK c x) (some (vI x)) (by omega)
      refine ⟨a', ?_⟩
      rw [List.map_cons]
      unfold forL
      have e1 : b_l_once_1 [some w, some (.loc L.length), some (vI x)] (L ++ [some (.di (tts c tt))]) = .nx [some w, some (.loc L.length), some (vI x)] (L ++ [some (.di (tts (insK c x) tt))]) := by
        have e := aput_tts tt x c
        have hc : c.length < sizeLine := by omega
        simp [b_l_once_1, tts_length, hc, e]
      simp only [u_tN, List.set_cons_succ, List.set_cons_zero]
      rw [e1]
      exact e
  obtain ⟨a', e⟩ := loop ks [] none (by simpa using hz)
  have hl : (once ks).length ≤ sizeLine := by have := len_once ks; omega
  have hc : fComp (srcK 1) (tN 2) tTrue (eVar 2) [2] [some w, some (.loc L.length), a'] (L ++ [some (.di (tts (once ks) tt))]) = .ok (.lst (((once ks).map PyData.int).map Va.d)) (L ++ [some (.di (tts (once ks) tt))]) := by
    have hk : srcK 1 [some w, some (.loc L.length), a'] (L ++ [some (.di (tts (once ks) tt))]) = .ok ((once ks).map vI, some L.length) (L ++ [some (.di (tts (once ks) tt))]) := by
      simp [srcK, keysOf, tts]
    unfold fComp
    rw [hk]
    simp only [Res.bind_ok, List.length_map, if_pos hl]
    have := compL_ty (g := tN 2) (t := tTrue) (f := eVar 2) (env := wipeE [some w, some (.loc L.length), a'] [2]) (L := lockL (some L.length) (L ++ [some (.di (tts (once ks) tt))])) vI (fun _ => true) vI (once ks) (fun x _ => ⟨_, rfl, rfl, fun _ => by simp [wipeE]⟩)
    rw [this, List.filter_eq_self.mpr (fun _ _ => rfl)]
    simp [openL, lockL]
  have hs : srcV (eVar 0) [some w, some (.loc L.length), none] (L ++ [some (.di (tts [] tt))]) = .ok (ks.map vI, none) (L ++ [some (.di (tts [] tt))]) := srcV_of (i := 0) (w := w) rfl (hw _)
  simp only [F_l_once, b_l_once, mkFn, List.length_cons, List.length_nil, if_true, List.map_cons, List.map_nil, List.replicate, List.cons_append, List.nil_append, u_sSeq, u_sSet, u_eNew, fD0, Res.bind_ok, then_ok, List.set_cons_succ, List.set_cons_zero, sFor]
  rw [show (Ob.di [] : Ob) = Ob.di (tts [] tt) from rfl, hs]
  simp only [then_ok, lockL_none]
  rw [e]
  simp only [openOut_nx, openL_none, u_sRet, u_eDat]
  rw [show ks.foldl insK [] = once ks from rfl, hc]
  simp
theorem kind_tup (xs : List PyData) (L : LH) : (Va.d (.tuple xs)).kind L = some "tuple" := rfl
/-- one road judged by the law -/
theorem l_pair_eq (m e : Int) (x y b rs : PyData) (o5 o6 o7 o8 : Option Va) (L : LH) : b_l_is_shape_1 [some (.d y), some (.d (.int m)), some (.d b), some (.d (.int e)), some (.d rs), some (.d x), o6, o7, o8] L =
    if pairB m e x then .nx [some (.d y), some (.d (.int m)), some (.d b), some (.d (.int e)), some (.d rs), some (.d x), o6, o7, o8] L else .rt (.d (.bool false)) L := by
  cases x with
  | tuple xs =>
    by_cases h : xs.length = 2
    · obtain ⟨u, v, rfl⟩ := two_some h
      rw [pairB_2]
      simp [b_l_is_shape_1, Va.kind, isKind, shaped_int, eqv_int, atI, ixN]
      by_cases h1 : placeB m u
      · obtain ⟨u, rfl⟩ := placeB_int h1
        by_cases h2 : placeB m v
        · obtain ⟨v, rfl⟩ := placeB_int h2
          simp [h1, h2, shaped_int, eqv_int]
          by_cases h3 : u = v
          · simp [h3]
          · by_cases h4 : u = e
            · simp [h3, h4]
            · simp [h3, h4]
        · simp [h1, h2]
      · simp [h1]
    · rw [pairB_tup h]
      have h' : ¬ ((xs.length : Int) = 2) := by omega
      simp [b_l_is_shape_1, Va.kind, isKind, shaped_int, eqv_int, h, h']
  | _ => simp [b_l_is_shape_1, Va.kind, isKind, pairB]

theorem eqv_nil_list (xs : List PyData) : PyData.eqv (.list xs) (.list []) = xs.isEmpty := by
  cases xs <;> simp [PyData.eqv, PyData.eqvAll]
theorem int_any (S : List Int) (v : Int) : ((S.map PyData.int).any fun z => PyData.eqv z (.int v)) = decide (v ∈ S) := by
  rw [List.any_map, Bool.eq_iff_iff]
  simp only [List.any_eq_true, Function.comp, eqv_int, decide_eq_true_eq]
  constructor
  · rintro ⟨x, h1, rfl⟩; exact h1
  · intro h; exact ⟨v, h, rfl⟩
theorem fine_dP {ps : List Pr} (h : ∀ p ∈ ps, p.1.natAbs.log2 < 1920 ∧ p.2.natAbs.log2 < 1920) : fineAll (ps.map dP) = true := by
  rw [fineAll_iff]
  intro x hx
  obtain ⟨p, hp, rfl⟩ := List.mem_map.mp hx
  simp [fine, fineAll, h p hp]
theorem shaped_list {xs : List PyData} (h : fineAll xs = true) (hd : ∀ x ∈ xs, x.depth ≤ 60) : SeqAt.shaped (.list xs) = true :=
  shaped_of (by simpa [fine] using h) (by
    simp only [PyData.depth]
    have := depthAll_le.mpr hd
    omega)
theorem shaped_ints (S : List Int) : SeqAt.shaped (.list (S.map PyData.int)) = true := by
  simp only [SeqAt.shaped, Bool.and_eq_true, decide_eq_true_eq]
  constructor
  · simp only [PyData.canLay0]
    induction S with
    | nil => rfl
    | cons a r ih => simp [PyData.canLayAll0, PyData.canLay0, ih]
  · simp only [PyData.depth]
    have : PyData.depthAll (S.map PyData.int) ≤ 0 := depthAll_le.mpr fun x hx => by
      obtain ⟨i, _, rfl⟩ := List.mem_map.mp hx
      simp [PyData.depth]
    omega
theorem shaped_dPs (S : List Pr) : SeqAt.shaped (.list (S.map dP)) = true := by
  simp only [SeqAt.shaped, Bool.and_eq_true, decide_eq_true_eq]
  constructor
  · simp only [PyData.canLay0]
    induction S with
    | nil => rfl
    | cons a r ih => simp [PyData.canLayAll0, PyData.canLay0, ih]
  · simp only [PyData.depth]
    have : PyData.depthAll (S.map dP) ≤ 1 := depthAll_le.mpr fun x hx => by
      obtain ⟨i, _, rfl⟩ := List.mem_map.mp hx
      simp [PyData.depth, PyData.depthAll]
    omega
theorem l_prune_eq (ps : List Pr) (S : List Int) (a0 a1 a2 a3 a5 a7 a8 : Option Va) (L : LH) (hz : ps.length ≤ sizeLine) (hz2 : S.length ≤ sizeLine) :
    b_l_is_shape_2 [a0, a1, a2, a3, some (.d (.tuple (ps.map dP))), a5, some (.d (.list (S.map .int))), a7, a8] L = .nx [a0, a1, a2, a3, some (.d (.tuple (ps.map dP))), a5, some (.d (.list ((prune ps S).map .int))), a7, a8] L := by
  have inner : ∀ x : Int, fComp (srcV (eVar 4)) (tN 5) (tAndF (tVal (eOp opEq (eOp opIx (eVar 5) (eC (.int 0))) (eVar 8))) (tVal (eOp (opIn false) (eOp opIx (eVar 5) (eC (.int 1))) (eVar 6)))) (eVar 5) [5] [a0, a1, a2, a3, some (.d (.tuple (ps.map dP))), a5, some (.d (.list (S.map .int))), a7, some (vI x)] L =
      .ok (.lst (((ps.filter fun p => decide (p.1 = x) && decide (p.2 ∈ S)).map dP).map Va.d)) L := fun x => by
    rw [fComp_ty (enc := vP) (p := fun p => decide (p.1 = x) && decide (p.2 ∈ S)) (h := vP) (xs := ps) (by simp [srcOf]) hz (fun p _ => ⟨_, rfl, by
      have ia := int_any S p.2
      rw [List.any_map] at ia
      by_cases h : p.1 = x
      · simp [wipeE, Va.seq, atI, ixN, eqv_int, h, Va.dget, Va.data, shaped_int, shaped_ints, ia]
      · simp [wipeE, Va.seq, atI, ixN, eqv_int, h], fun _ => by simp [wipeE]⟩)]
    simp
  have outer : fComp (srcV (eVar 6)) (tN 8) (tVal (eOp opNe (eDat (fComp (srcV (eVar 4)) (tN 5) (tAndF (tVal (eOp opEq (eOp opIx (eVar 5) (eC (.int 0))) (eVar 8))) (tVal (eOp (opIn false) (eOp opIx (eVar 5) (eC (.int 1))) (eVar 6)))) (eVar 5) [5])) (eDat (fLst aNil)))) (eVar 8) [8] [a0, a1, a2, a3, some (.d (.tuple (ps.map dP))), a5, some (.d (.list (S.map .int))), a7, a8] L = .ok (.lst (((prune ps S).map PyData.int).map Va.d)) L := by
    rw [fComp_ty (enc := vI) (p := fun x => ps.any fun p => decide (p.1 = x) && decide (p.2 ∈ S)) (h := vI) (xs := S) (by simp [srcOf]) hz2 (fun x _ => ⟨_, rfl, by
      have hi := inner x
      have c1 : cmpOk (.list ((ps.filter fun p => decide (p.1 = x) && decide (p.2 ∈ S)).map dP)) (.list []) = true := cmpOk_of (shaped_dPs _) (by decide)
      simp only [wipeE, u_tVal, u_eOp, u_eDat, u_tN, List.set_cons_succ, List.set_cons_zero] at hi ⊢
      rw [hi]
      simp only [Res.bind_ok, va_lst, u_fLst, u_aNil, List.length_nil, Nat.zero_le, if_true, va_nil, u_opNe, data_d, c1, eqv_nil_list]
      congr 1
      rw [Bool.eq_iff_iff]
      simp [List.filter_eq_nil_iff, List.any_eq_true], fun _ => by simp [wipeE]⟩)]
    simp [prune]
  simp only [b_l_is_shape_2, u_sSet, u_eDat, outer, Res.bind_ok, va_lst, then_ok, List.set_cons_succ, List.set_cons_zero]
theorem F_l_is_shape_eq (x : PyData) (hx : fewS x) (L : LH) : F_l_is_shape [.d x] L = .ok (.d (.bool (shapeB x))) L := by
  cases x with
  | tuple xs =>
    by_cases h : xs.length = 4
    · obtain ⟨m, b, e, r, rfl⟩ := four_some h
      rw [shapeB_4]
      by_cases h0 : fromB 2 m
      · obtain ⟨m, rfl⟩ := fromB_int h0
        have h1' : 2 ≤ m := by simpa [fromB] using h0
        by_cases h2 : placeB m b
        · obtain ⟨b, rfl⟩ := placeB_int h2
          by_cases h3 : placeB m e
          · obtain ⟨e, rfl⟩ := placeB_int h3
            by_cases h4 : b = e
            · subst h4
              simp [F_l_is_shape, b_l_is_shape, mkFn, Va.kind, isKind, shaped_int, eqv_int, h0, h2, h3, atI, ixN]
              cases r <;> simp
            · cases r with
              | tuple rs =>
                have hz : 2 + 2 * rs.length < sizeLine := hx
                obtain ⟨env', L', hR, el⟩ := forL_all (g := tN 5) (body := b_l_is_shape_1) Va.d (fun env M => M = L ∧ ∃ a, env = [some (.d (.tuple [.int m, .int b, .int e, .tuple rs])), some (.d (.int m)), some (.d (.int b)), some (.d (.int e)), some (.d (.tuple rs)), a, none, none, none]) (pairB m e) (.d (.bool false)) rs
                  [some (.d (.tuple [.int m, .int b, .int e, .tuple rs])), some (.d (.int m)), some (.d (.int b)), some (.d (.int e)), some (.d (.tuple rs)), none, none, none, none] L ⟨rfl, none, rfl⟩ (by
                    rintro y _ env M ⟨rfl, a, rfl⟩
                    refine ⟨_, _, rfl, ?_⟩
                    have := l_pair_eq m e y (.tuple [.int m, .int b, .int e, .tuple rs]) (.int b) (.tuple rs) none none none none M
                    simp only [List.set_cons_succ, List.set_cons_zero]
                    rw [this]
                    split
                    · exact ⟨_, _, .inl rfl, rfl, some (.d y), rfl⟩
                    · exact ⟨[some (.d (.tuple [.int m, .int b, .int e, .tuple rs])), some (.d (.int m)), some (.d (.int b)), some (.d (.int e)), some (.d (.tuple rs)), none, none, none, none], M, rfl, rfl, none, rfl⟩)
                obtain ⟨rfl, a, rfl⟩ := hR
                by_cases ha : rs.all (pairB m e) = true
                · rw [if_pos ha] at el
                  have er := pairs_pr ha
                  have ho : fComp (srcV (eVar 4)) (tN 5) tTrue (eOp opIx (eVar 5) (eC (.int 0))) [5] [some (.d (.tuple [.int m, .int b, .int e, .tuple rs])), some (.d (.int m)), some (.d (.int b)), some (.d (.int e)), some (.d (.tuple rs)), a, none, none, none] L' = .ok (.lst ((((rs.map prOf).map (·.1)).map PyData.int).map Va.d)) L' := by
                    rw [fComp_tym (enc := Va.d) (h := fun x => vI (prOf x).1) (xs := rs) (by simp [srcOf]) (by omega) (fun y hy => ⟨_, rfl, by
                      have := (pairB_pr (List.all_eq_true.mp ha y hy)).1
                      generalize prOf y = q at this
                      subst this
                      simp [wipeE, Va.seq, atI, ixN]⟩)]
                    simp
                  have hon := F_l_once_eq (w := .d (.list (((rs.map prOf).map (·.1)).map PyData.int))) (ks := (rs.map prOf).map (·.1)) (L := L') (fun L' => by simp [srcOf]) (by simp; omega)
                  have loop : ∀ (xs : List Va) (S : List Int) (a7 : Option Va), S.length ≤ sizeLine → ∃ a7', forL (tN 7) b_l_is_shape_2 xs [some (.d (.tuple [.int m, .int b, .int e, .tuple rs])), some (.d (.int m)), some (.d (.int b)), some (.d (.int e)), some (.d (.tuple rs)), a, some (.d (.list (S.map .int))), a7, none] L' = .nx [some (.d (.tuple [.int m, .int b, .int e, .tuple rs])), some (.d (.int m)), some (.d (.int b)), some (.d (.int e)), some (.d (.tuple rs)), a, some (.d (.list ((pruneN (rs.map prOf) xs.length S).map .int))), a7', none] L' := by
                    intro xs
                    induction xs with
                    | nil => intro S a7 _; exact ⟨a7, rfl⟩
                    | cons y r ih =>
                      intro S a7 hS
                      obtain ⟨a7', e9⟩ := ih (prune (rs.map prOf) S) (some y) (by have := prune_len (rs.map prOf) S; omega)
                      refine ⟨a7', ?_⟩
                      unfold forL
                      have e1 := l_prune_eq (rs.map prOf) S (some (.d (.tuple [.int m, .int b, .int e, .tuple rs]))) (some (.d (.int m))) (some (.d (.int b))) (some (.d (.int e))) a (some y) none L' (by simp; omega) hS
                      rw [← er] at e1
                      simp only [u_tN, List.set_cons_succ, List.set_cons_zero]
                      rw [e1]
                      exact e9
                  obtain ⟨a7', e7⟩ := loop (rngV 0 (rs.length + 1)) (once ((rs.map prOf).map (·.1))) none (by have := len_once ((rs.map prOf).map (·.1)); simp only [List.length_map] at this; omega)
                  have pi := prune_iff (rs.map prOf)
                  have hr : (rngV 0 (rs.length + 1)).length = (rs.map prOf).length + 1 := by simp [rngV]
                  rw [hr] at e7
                  have hsrc : srcR1 (aCons (eOp opAdd (eCallB cLen (aCons (eVar 4) aNil)) (eC (.int 1))) aNil) [some (.d (.tuple [.int m, .int b, .int e, .tuple rs])), some (.d (.int m)), some (.d (.int b)), some (.d (.int e)), some (.d (.tuple rs)), a, some (.d (.list ((once ((rs.map prOf).map (·.1))).map .int))), none, none] L' = .ok (rngV 0 (rs.length + 1), none) L' := srcR1_nat (n := rs.length + 1) (by simp) (by omega)
                  have c1 : cmpOk (.list ((pruneN (rs.map prOf) ((rs.map prOf).length + 1) (once ((rs.map prOf).map (·.1)))).map .int)) (.list []) = true := cmpOk_of (shaped_ints _) (by decide)
                  have fin : PyData.eqv (.list ((pruneN (rs.map prOf) ((rs.map prOf).length + 1) (once ((rs.map prOf).map (·.1)))).map .int)) (.list []) = !roundB (rs.map prOf) := by
                    rw [eqv_nil_list, Bool.eq_iff_iff, Bool.not_eq_true', ← pi]
                    cases pruneN (rs.map prOf) ((rs.map prOf).length + 1) (once ((rs.map prOf).map (·.1))) <;> simp
                  have h2' : 0 ≤ b ∧ b < m := by simpa [placeB] using h2
                  generalize hP : pruneN (rs.map prOf) ((rs.map prOf).length + 1) (once ((rs.map prOf).map (·.1))) = P at e7 c1 fin
                  generalize hO : once ((rs.map prOf).map (·.1)) = O at hon e7 hsrc
                  refine fn_rt rfl (L' := L') ?_
                  refine seq_nx (env1 := [some (.d (.tuple [.int m, .int b, .int e, .tuple rs])), none, none, none, none, none, none, none, none]) (L1 := L') (by simp [Va.kind, isKind, shaped_int, eqv_int, atI, ixN, h0]) ?_
                  refine seq_nx (env1 := [some (.d (.tuple [.int m, .int b, .int e, .tuple rs])), some (.d (.int m)), some (.d (.int b)), some (.d (.int e)), some (.d (.tuple rs)), none, none, none, none]) (L1 := L') (by simp) ?_
                  refine seq_nx (env1 := [some (.d (.tuple [.int m, .int b, .int e, .tuple rs])), some (.d (.int m)), some (.d (.int b)), some (.d (.int e)), some (.d (.tuple rs)), none, none, none, none]) (L1 := L') (by simp [h2, h3, h4, shaped_int, eqv_int, Va.kind, isKind]) ?_
                  refine seq_nx (for_nx (ws := rs.map Va.d) (by simp [srcOf]) el) ?_
                  refine seq_nx (env1 := [some (.d (.tuple [.int m, .int b, .int e, .tuple rs])), some (.d (.int m)), some (.d (.int b)), some (.d (.int e)), some (.d (.tuple rs)), a, some (.d (.list (O.map .int))), none, none]) (L1 := L') (by simp only [u_sSet, u_eCall, u_aCons, u_aNil, u_eDat, ho, Res.bind_ok, va_lst, hon, then_ok, List.set_cons_succ, List.set_cons_zero]) ?_
                  refine seq_nx (for_nx hsrc e7) ?_
                  simp [c1, fin, h2, h3, h4, h1', ha, -List.all_eq_true, eqv_int]
                · rw [if_neg ha] at el
                  simp [F_l_is_shape, b_l_is_shape, mkFn, Va.kind, isKind, shaped_int, eqv_int, h0, h2, h3, h4, atI, ixN, sFor, srcOf, el]
                  exact fun _ z => absurd (List.all_eq_true.mpr z) ha
              | _ => simp [F_l_is_shape, b_l_is_shape, mkFn, Va.kind, isKind, shaped_int, eqv_int, h0, h2, h3, h4, atI, ixN]
          · simp [F_l_is_shape, b_l_is_shape, mkFn, Va.kind, isKind, shaped_int, eqv_int, h0, h2, h3, atI, ixN]
            cases e <;> cases r <;> simp_all
        · simp [F_l_is_shape, b_l_is_shape, mkFn, Va.kind, isKind, shaped_int, eqv_int, h0, h2, atI, ixN]
          cases e <;> cases r <;> simp_all
      · simp [F_l_is_shape, b_l_is_shape, mkFn, Va.kind, isKind, shaped_int, eqv_int, h0, atI, ixN]
        cases m <;> cases e <;> cases r <;> simp [fromB] at h0 ⊢
        all_goals omega
    · rw [shapeB_tup h]
      have h' : ¬ ((xs.length : Int) = 4) := by omega
      simp [F_l_is_shape, b_l_is_shape, mkFn, Va.kind, isKind, shaped_int, eqv_int, h, h']
  | _ => simp [F_l_is_shape, b_l_is_shape, mkFn, Va.kind, isKind, shapeB]
end L2.HW
/-! TG: orders, shapes drawn. -/
namespace L2.HW
open PySem PySem.Spec PyProof.Rows
/-- an order of the numbers below m -/
structure Ord (m : Nat) (os : List Int) : Prop where
  len : os.length = m
  nd : os.Nodup
  bd : ∀ x ∈ os, 0 ≤ x ∧ x < m
theorem ord_ins {m : Nat} {os : List Int} (h : Ord m os) (i : Nat) : Ord (m + 1) (os.take i ++ [(m : Int)] ++ os.drop i) := by
  have p : (os.take i ++ [(m : Int)] ++ os.drop i).Perm ((m : Int) :: os) := by
    have := List.take_append_drop i os
    refine List.Perm.trans (List.Perm.append_right _ List.perm_append_comm) ?_
    rw [List.append_assoc, this]
    exact List.Perm.refl _
  refine ⟨by rw [p.length_eq]; simp [h.len], p.nodup_iff.mpr (List.nodup_cons.mpr ⟨fun z => by have := (h.bd _ z).2; omega, h.nd⟩), fun x hx => ?_⟩
  rcases List.mem_cons.mp (p.mem_iff.mp hx) with rfl | hx
  · omega
  · have := h.bd x hx; omega
theorem set_top2 {L : LH} {n : Nat} {o o' : Option Ob} (hn : n < L.length) (q : Int) : ((L ++ [o]).set n (P1 q)).set L.length o' = (L ++ [o']).set n (P1 q) := set_top hn
theorem order_ex {L : LH} {n : Nat} {p : Int} {m : Nat} (hn : n < L.length) (hm : m ≤ 10000) :
    ∃ (os : List Int) (p' : Int), F_l_order_of [.loc n, .d (.int (m : Int))] (L.set n (P1 p)) = .ok (.d (.list (os.map .int))) (L.set n (P1 p')) ∧ Ord m os := by
  have loop : ∀ (k j : Nat) (os : List Int) (q : Int) (a : Option Va), Ord j os → j + k = m → ∃ (os' : List Int) (q' : Int) (a' : Option Va), Ord m os' ∧
      forL (tN 3) b_l_order_of_1 ((List.range' j k).map fun i => Va.d (.int (0 + (i : Nat)))) [some (.loc n), some (.d (.int (m : Int))), some (.loc L.length), a] ((L ++ [some (Ob.lst ((os.map PyData.int).map Va.d))]).set n (P1 q)) =
        .nx [some (.loc n), some (.d (.int (m : Int))), some (.loc L.length), a'] ((L ++ [some (Ob.lst ((os'.map PyData.int).map Va.d))]).set n (P1 q')) := by
    intro k
    induction k with
    | zero => intro j os q a h e; exact ⟨os, q, a, by rw [← e]; exact h, rfl⟩
    | succ k ih =>
      intro j os q a h e
      obtain ⟨u, q1, u0, u1, eu⟩ := take_cell (L := L) (n := n) (p := q) (s := (j : Int) + 1) (o := some (Ob.lst ((os.map PyData.int).map Va.d))) hn (by omega) (log_small (by omega) (by omega))
      obtain ⟨os', q', a', h', e'⟩ := ih (j + 1) (os.take u.toNat ++ [(j : Int)] ++ os.drop u.toNat) q1 (some (.d (.int (0 + (j : Nat))))) (ord_ins h _) (by omega)
      refine ⟨os', q', a', h', ?_⟩
      rw [List.range'_succ, List.map_cons]
      unfold forL
      have hl := h.len
      have hz : os.length < sizeLine ∧ 0 ≤ u ∧ u < 2 ^ 63 := by rw [sizeLine_eq]; exact ⟨by omega, u0, by omega⟩
      have gt := get_top (L := L) (p := q) (o := some (Ob.lst ((os.map PyData.int).map Va.d))) hn
      have gt1 := get_top (L := L) (p := q1) (o := some (Ob.lst ((os.map PyData.int).map Va.d))) hn
      have body : b_l_order_of_1 [some (.loc n), some (.d (.int (m : Int))), some (.loc L.length), some (.d (.int (0 + (j : Nat))))] ((L ++ [some (Ob.lst ((os.map PyData.int).map Va.d))]).set n (P1 q)) =
          .nx [some (.loc n), some (.d (.int (m : Int))), some (.loc L.length), some (.d (.int (0 + (j : Nat))))] ((L ++ [some (Ob.lst (((os.take u.toNat ++ [(j : Int)] ++ os.drop u.toNat).map PyData.int).map Va.d))]).set n (P1 q1)) := by
        simp only [b_l_order_of_1, u_sExpr, u_eMeth, u_eVar, List.getElem?_cons_zero, List.getElem?_cons_succ, Res.bind_ok, u_isLs, gt, if_true, u_aCons, u_eCall, u_eOp, u_eC, u_opAdd, Int.zero_add, u_aNil, eu, u_mInsert, gt1, List.length_map, if_pos hz, then_ok, set_top hn]
        congr 2
        simp [List.map_take, List.map_drop]
      simp only [u_tN, List.set_cons_succ, List.set_cons_zero]
      rw [body]
      exact e'
  obtain ⟨os, q, a, h, e⟩ := loop m 0 [] p none ⟨rfl, .nil, fun _ h => nomatch h⟩ (by omega)
  refine ⟨os, q, ?_, h⟩
  have st : settle ((L ++ [some (Ob.lst ((os.map PyData.int).map Va.d))]).set n (P1 q)) (L.set n (P1 p)).length 9 (.loc L.length) = some (.d (.list (os.map .int))) := by
    rw [settle_loc, if_neg (by simp), get_top hn]
    exact settleO_d _ _ _ _
  have hsrc : srcR1 (aCons (eVar 1) aNil) [some (.loc n), some (.d (.int (m : Int))), some (.loc L.length), none] ((L ++ [some (Ob.lst [])]).set n (P1 p)) = .ok (rngV 0 m, none) ((L ++ [some (Ob.lst [])]).set n (P1 p)) := srcR1_nat (by simp) (by rw [sizeLine_eq]; omega)
  have hr : rngV 0 m = (List.range' 0 m).map fun i => Va.d (.int (0 + (i : Nat))) := by simp [rngV, List.range_eq_range']
  rw [← hr] at e
  refine fn_out (L' := (L ++ [some (Ob.lst ((os.map PyData.int).map Va.d))]).set n (P1 q)) rfl ?_ st (outV_set _ hn)
  refine seq_nx (env1 := [some (.loc n), some (.d (.int (m : Int))), some (.loc L.length), none]) (L1 := (L ++ [some (Ob.lst [])]).set n (P1 p)) (by simp [set_app hn]) ?_
  refine seq_nx (for_nx hsrc e) ?_
  simp
/-! ### shapes -/
structure GoodS (top cnt : Int) (m b e : Int) (ps : List Pr) : Prop where
  m2 : 2 ≤ m
  mt : m ≤ top
  b0 : 0 ≤ b
  b1 : b < m
  e0 : 0 ≤ e
  e1 : e < m
  be : b ≠ e
  rd : ∀ p ∈ ps, 0 ≤ p.1 ∧ p.1 < m ∧ 0 ≤ p.2 ∧ p.2 < m ∧ p.1 ≠ e
  len : (ps.length : Int) ≤ cnt
  acy : Acy ps
theorem Acy.ne {ps : List Pr} (h : Acy ps) : ∀ p ∈ ps, p.1 ≠ p.2 := fun p hp e => by
  obtain ⟨r, hr⟩ := h
  have := hr p hp
  rw [e] at this
  exact Int.lt_irrefl _ this
abbrev encS (m b e : Int) (ps : List Pr) : PyData := .tuple [.int m, .int b, .int e, .tuple (ps.map dP)]
theorem GoodS.shapeB {top cnt m b e : Int} {ps : List Pr} (h : GoodS top cnt m b e ps) : shapeB (encS m b e ps) = true := by
  rw [encS, shapeB_4]
  have hp : (ps.map dP).all (pairB m e) = true := by
    rw [List.all_eq_true]
    intro x hx
    obtain ⟨p, hp, rfl⟩ := List.mem_map.mp hx
    have := h.rd p hp
    have hn := h.acy.ne p hp
    simp [pairB, this, hn]
  have hr : (ps.map dP).map prOf = ps := by
    rw [List.map_map]
    exact List.map_id' ps
  simp only [hp, hr, roundB_acy.mpr h.acy]
  simp [placeB, eqv_int, h.m2, h.b0, h.b1, h.e0, h.e1, h.be]
/-- the turn of a place in an order -/
def rank (os : List Int) (x : Int) : Int := os.idxOf x
theorem rank_at {os : List Int} (h : os.Nodup) {i : Nat} (hi : i < os.length) : rank os os[i] = i := by
  unfold rank
  rw [List.Nodup.idxOf_getElem h i hi]
theorem atI_int (os : List Int) (i : Nat) (hi : i < os.length) : atI ((os.map PyData.int).map Va.d) (i : Int) = some (.d (.int os[i])) := by
  simp [atI, ixN, hi, List.getElem?_eq_getElem hi]
theorem shape_ex {L : LH} {n : Nat} {p top bound : Int} (hn : n < L.length) (ht : 2 ≤ top) (ht2 : top ≤ 1000) (hb : 0 ≤ bound) (hb2 : bound ≤ 10000) :
    ∃ (m b e : Int) (ps : List Pr) (p' : Int), F_l_shape [.loc n, .d (.int top), .d (.int bound)] (L.set n (P1 p)) = .ok (.d (encS m b e ps)) (L.set n (P1 p')) ∧ GoodS top bound m b e ps := by
  obtain ⟨a, p1, a0, a1, ea⟩ := take_ex (p := p) hn (show 0 < top - 1 by omega) (log_small (by omega) (by omega))
  obtain ⟨M, hM⟩ : ∃ M : Nat, 2 + a = (M : Int) := ⟨(2 + a).toNat, by omega⟩
  obtain ⟨os, p2, eo, ord⟩ := order_ex (L := L) (p := p1) (m := M) hn (by omega)
  have hlen := ord.len
  have loop : ∀ (ws : List Va) (ps : List Pr) (q : Int) (s6 s7 s8 : Option Va), (ps.length : Int) + ws.length ≤ bound → (∀ p ∈ ps, ∃ i j : Nat, ∃ (hi : i < os.length) (hj : j < os.length), i < j ∧ p = (os[i], os[j])) →
      ∃ (ps' : List Pr) (q' : Int) (t6 t7 t8 : Option Va), forL (tN 6) b_l_shape_1 ws [some (.loc n), some (.d (.int top)), some (.d (.int bound)), some (.d (.int M)), some (.d (.list (os.map .int))), some (.loc L.length), s6, s7, s8, none] ((L ++ [some (Ob.lst ((ps.map dP).map Va.d))]).set n (P1 q)) =
        .nx [some (.loc n), some (.d (.int top)), some (.d (.int bound)), some (.d (.int M)), some (.d (.list (os.map .int))), some (.loc L.length), t6, t7, t8, none] ((L ++ [some (Ob.lst ((ps'.map dP).map Va.d))]).set n (P1 q')) ∧
        (ps'.length : Int) ≤ bound ∧ (∀ p ∈ ps', ∃ i j : Nat, ∃ (hi : i < os.length) (hj : j < os.length), i < j ∧ p = (os[i], os[j])) := by
    intro ws
    induction ws with
    | nil => intro ps q s6 s7 s8 h1 h2; exact ⟨ps, q, s6, s7, s8, rfl, by simpa using h1, h2⟩
    | cons w ws ih =>
      intro ps q s6 s7 s8 h1 h2
      simp only [List.length_cons] at h1
      obtain ⟨i, q1, i0, i1, ei⟩ := take_cell (L := L) (n := n) (p := q) (s := (M : Int) - 1) (o := some (Ob.lst ((ps.map dP).map Va.d))) hn (by omega) (log_small (by omega) (by omega))
      obtain ⟨j, q2, j0, j1, ej⟩ := take_cell (L := L) (n := n) (p := q1) (s := (M : Int) - 1 - i) (o := some (Ob.lst ((ps.map dP).map Va.d))) hn (by omega) (log_small (by omega) (by omega))
      obtain ⟨I, rfl⟩ : ∃ I : Nat, i = (I : Int) := ⟨i.toNat, by omega⟩
      obtain ⟨J, hJ⟩ : ∃ J : Nat, (I : Int) + 1 + j = (J : Int) := ⟨((I : Int) + 1 + j).toNat, by omega⟩
      have hI : I < os.length := by omega
      have hJl : J < os.length := by omega
      obtain ⟨ps', q', t6, t7, t8, e', h3, h4⟩ := ih (ps ++ [(os[I], os[J])]) q2 (some w) (some (.d (.int I))) (some (.d (.int J))) (by simp; omega) (fun p hp => by
        rcases List.mem_append.mp hp with hp | hp
        · exact h2 p hp
        · exact ⟨I, J, hI, hJl, by omega, by simpa using hp⟩)
      refine ⟨ps', q', t6, t7, t8, ?_, h3, h4⟩
      unfold forL
      have a1 := atI_int os I hI
      have a2 := atI_int os J hJl
      have hz : ps.length < sizeLine := by rw [sizeLine_eq]; omega
      have body : b_l_shape_1 [some (.loc n), some (.d (.int top)), some (.d (.int bound)), some (.d (.int M)), some (.d (.list (os.map .int))), some (.loc L.length), some w, s7, s8, none] ((L ++ [some (Ob.lst ((ps.map dP).map Va.d))]).set n (P1 q)) =
          .nx [some (.loc n), some (.d (.int top)), some (.d (.int bound)), some (.d (.int M)), some (.d (.list (os.map .int))), some (.loc L.length), some w, some (.d (.int I)), some (.d (.int J)), none] ((L ++ [some (Ob.lst (((ps ++ [(os[I], os[J])]).map dP).map Va.d))]).set n (P1 q2)) := by
        refine seq_nx (env1 := [some (.loc n), some (.d (.int top)), some (.d (.int bound)), some (.d (.int M)), some (.d (.list (os.map .int))), some (.loc L.length), some w, some (.d (.int I)), s8, none]) (L1 := (L ++ [some (Ob.lst ((ps.map dP).map Va.d))]).set n (P1 q1)) (by simp [-List.map_map, ei]) ?_
        refine seq_nx (env1 := [some (.loc n), some (.d (.int top)), some (.d (.int bound)), some (.d (.int M)), some (.d (.list (os.map .int))), some (.loc L.length), some w, some (.d (.int I)), some (.d (.int J)), none]) (L1 := (L ++ [some (Ob.lst ((ps.map dP).map Va.d))]).set n (P1 q2)) (by simp [-List.map_map, ej, hJ]) ?_
        have g2 := get_top (L := L) (p := q2) (o := some (Ob.lst ((ps.map dP).map Va.d))) hn
        have hz' : ps.length < 16777216 := by rw [sizeLine_eq] at hz; exact hz
        have st := set_top (L := L) (p := q2) (o := some (Ob.lst ((ps.map dP).map Va.d))) (o' := some (Ob.lst ((ps.map dP).map Va.d ++ [vP (os[I], os[J])]))) hn
        simp [-List.map_map, a1, a2, g2, get_top' hn, hz', sizeLine_eq, set_top hn]
      simp only [u_tN, List.set_cons_succ, List.set_cons_zero]
      rw [body]
      exact e'
  obtain ⟨c, p3, c0, c1, ec⟩ := take_cell (L := L) (n := n) (p := p2) (s := bound + 1) (o := some (Ob.lst [])) hn (by omega) (log_small (by omega) (by omega))
  obtain ⟨ps, q, t6, t7, t8, el, hl, hp⟩ := loop (rngV 0 c.toNat) [] p3 none none none (by simp [rngV]; omega) (fun _ h => nomatch h)
  obtain ⟨bi, p4, b0, b1, eb⟩ := take_cell (L := L) (n := n) (p := q) (s := (M : Int) - 1) (o := some (Ob.lst ((ps.map dP).map Va.d))) hn (by omega) (log_small (by omega) (by omega))
  obtain ⟨ch, p5, ch0, ch1, ech⟩ := take_cell (L := L) (n := n) (p := p4) (s := 4) (o := some (Ob.lst ((ps.map dP).map Va.d))) hn (by omega)
  obtain ⟨B, hB, hBl⟩ : ∃ B : Nat, atI [Va.d (.int 0), Va.d (.int 0), Va.d (.int 0), Va.d (.int bi)] ch = some (.d (.int B)) ∧ B + 1 < M := by
    have h : ch = 0 ∨ ch = 1 ∨ ch = 2 ∨ ch = 3 := by omega
    rcases h with rfl | rfl | rfl | rfl
    · exact ⟨0, rfl, by omega⟩
    · exact ⟨0, rfl, by omega⟩
    · exact ⟨0, rfl, by omega⟩
    · exact ⟨bi.toNat, by rw [Int.toNat_of_nonneg b0]; rfl, by omega⟩
  have hBl' : B < os.length := by omega
  have hEl : M - 1 < os.length := by omega
  refine ⟨M, os[B], os[M - 1], ps, p5, ?_, ⟨by omega, by omega, (ord.bd _ (List.getElem_mem hBl')).1, (ord.bd _ (List.getElem_mem hBl')).2, (ord.bd _ (List.getElem_mem hEl)).1, (ord.bd _ (List.getElem_mem hEl)).2, fun e => ?_, fun p h => ?_, hl, ?_⟩⟩
  · have rg : -4611686018427387904 ≤ c ∧ c < 4611686018427387904 := by omega
    have a1 := atI_int os B hBl'
    have a2 : atI ((os.map PyData.int).map Va.d) (-1) = some (.d (.int os[M - 1])) := by
      have : ixN ((os.map PyData.int).map Va.d).length (-1) = some (M - 1) := by
        simp only [List.length_map, hlen]
        unfold ixN
        have n2 : -(M : Int) ≤ -1 := by omega
        have n3 : (-1 + (M : Int)).toNat = M - 1 := by omega
        simp [n2, n3]
      unfold atI
      rw [this]
      simp [List.getElem?_eq_getElem hEl]
    have g5 := get_top (L := L) (p := p5) (o := some (Ob.lst ((ps.map dP).map Va.d))) hn
    refine fn_out (L' := (L ++ [some (Ob.lst ((ps.map dP).map Va.d))]).set n (P1 p5)) (w := .d (encS M os[B] os[M - 1] ps)) rfl ?_ (settle_d _ _ _ _) (outV_set _ hn)
    refine seq_nx (env1 := [some (.loc n), some (.d (.int top)), some (.d (.int bound)), some (.d (.int M)), none, none, none, none, none, none]) (L1 := L.set n (P1 p1)) (by simp [ea, hM]) ?_
    refine seq_nx (env1 := [some (.loc n), some (.d (.int top)), some (.d (.int bound)), some (.d (.int M)), some (.d (.list (os.map .int))), none, none, none, none, none]) (L1 := L.set n (P1 p2)) (by simp [eo]) ?_
    refine seq_nx (env1 := [some (.loc n), some (.d (.int top)), some (.d (.int bound)), some (.d (.int M)), some (.d (.list (os.map .int))), some (.loc L.length), none, none, none, none]) (L1 := (L ++ [some (Ob.lst [])]).set n (P1 p2)) (by simp [set_app hn]) ?_
    refine seq_nx (env1 := [some (.loc n), some (.d (.int top)), some (.d (.int bound)), some (.d (.int M)), some (.d (.list (os.map .int))), some (.loc L.length), t6, t7, t8, none]) (L1 := (L ++ [some (Ob.lst ((ps.map dP).map Va.d))]).set n (P1 q)) ?_ ?_
    · have hs : srcR1 (aCons (eCall F_l_take (aCons (eVar 0) (aCons (eOp opAdd (eVar 2) (eC (.int 1))) aNil))) aNil) [some (.loc n), some (.d (.int top)), some (.d (.int bound)), some (.d (.int M)), some (.d (.list (os.map .int))), some (.loc L.length), none, none, none, none] ((L ++ [some (Ob.lst [])]).set n (P1 p2)) = .ok (rngV 0 c.toNat, none) ((L ++ [some (Ob.lst [])]).set n (P1 p3)) := srcR1_int (by simp [ec]) rg
      simp only [sFor, hs, then_ok, lockL_none]
      rw [show (L ++ [some (Ob.lst [])]) = (L ++ [some (Ob.lst ((([] : List Pr).map dP).map Va.d))]) from rfl, el]
      simp only [openOut_nx, openL_none]
    refine seq_nx (env1 := [some (.loc n), some (.d (.int top)), some (.d (.int bound)), some (.d (.int M)), some (.d (.list (os.map .int))), some (.loc L.length), t6, t7, t8, some (.d (.int B))]) (L1 := (L ++ [some (Ob.lst ((ps.map dP).map Va.d))]).set n (P1 p5)) ?_ ?_
    · simp [-List.map_map, eb, ech, hB, sizeLine_eq]
    · simp [-List.map_map, a1, a2, g5, get_top' hn, Va.items, sizeLine_eq]
  · have := (List.getElem_inj ord.nd).mp e
    omega
  · obtain ⟨i, j, hi, hj, hij, rfl⟩ := hp p h
    refine ⟨(ord.bd _ (List.getElem_mem hi)).1, (ord.bd _ (List.getElem_mem hi)).2, (ord.bd _ (List.getElem_mem hj)).1, (ord.bd _ (List.getElem_mem hj)).2, fun e => ?_⟩
    have := (List.getElem_inj ord.nd).mp e
    omega
  · refine ⟨rank os, fun p h => ?_⟩
    obtain ⟨i, j, hi, hj, hij, rfl⟩ := hp p h
    simp only [rank_at ord.nd hi, rank_at ord.nd hj]
    omega
end L2.HW
/-! TH: shapes grown, numbered otherwise. -/
namespace L2.HW
open PySem PySem.Spec PyProof.Rows
structure Gr (m : Int) (es : List Pr) : Prop where
  m2 : 2 ≤ m
  m7 : m ≤ 7
  rd : ∀ p ∈ es, 0 ≤ p.1 ∧ p.1 < m ∧ 0 ≤ p.2 ∧ p.2 < m ∧ p.1 ≠ 1
  acy : Acy es
theorem Acy.sub {ps qs : List Pr} (h : Acy qs) (hs : ∀ p ∈ ps, p ∈ qs) : Acy ps := let ⟨r, hr⟩ := h; ⟨r, fun p hp => hr p (hs p hp)⟩
theorem Gr.split {m : Int} {es : List Pr} (h : Gr m es) (h7 : m < 7) (i : Nat) (hi : i < es.length) : Gr (m + 1) (es.take i ++ [(es[i].1, m), (m, es[i].2)] ++ es.drop (i + 1)) := by
  have hr := h.rd _ (List.getElem_mem hi)
  have m2 := h.m2
  refine ⟨by omega, by omega, fun p hp => ?_, ?_⟩
  · simp only [List.mem_append, List.mem_cons, List.not_mem_nil, or_false] at hp
    rcases hp with (hp | rfl | rfl) | hp
    · have := h.rd p (List.mem_of_mem_take hp); exact ⟨this.1, by omega, this.2.2.1, by omega, this.2.2.2.2⟩
    · exact ⟨hr.1, by show es[i].1 < m + 1; omega, by show 0 ≤ m; omega, by show m < m + 1; omega, hr.2.2.2.2⟩
    · exact ⟨by show 0 ≤ m; omega, by show m < m + 1; omega, hr.2.2.1, by show es[i].2 < m + 1; omega, by show m ≠ 1; omega⟩
    · have := h.rd p (List.mem_of_mem_drop hp); exact ⟨this.1, by omega, this.2.2.1, by omega, this.2.2.2.2⟩
  · obtain ⟨r, hr'⟩ := h.acy
    have old : ∀ x, x < m → (if x = m then 2 * r es[i].1 + 1 else 2 * r x) = 2 * r x := fun x hx => if_neg (by omega)
    refine ⟨fun x => if x = m then 2 * r es[i].1 + 1 else 2 * r x, fun p hp => ?_⟩
    simp only [List.mem_append, List.mem_cons, List.not_mem_nil, or_false] at hp
    rcases hp with (hp | rfl | rfl) | hp
    · have h1 := h.rd p (List.mem_of_mem_take hp); have h2 := hr' p (List.mem_of_mem_take hp)
      simp only [old _ h1.2.1, old _ h1.2.2.2.1]; omega
    · simp only [old _ hr.2.1, if_true]; omega
    · have := hr' _ (List.getElem_mem hi)
      simp only [old _ hr.2.2.2.1, if_true]; omega
    · have h1 := h.rd p (List.mem_of_mem_drop hp); have h2 := hr' p (List.mem_of_mem_drop hp)
      simp only [old _ h1.2.1, old _ h1.2.2.2.1]; omega
theorem Gr.twice {m : Int} {es : List Pr} (h : Gr m es) (i : Nat) (hi : i < es.length) : Gr m (es.take i ++ [(es[i].1, es[i].2)] ++ es.drop i) := by
  have sub : ∀ p ∈ es.take i ++ [(es[i].1, es[i].2)] ++ es.drop i, p ∈ es := fun p hp => by
    simp only [List.mem_append, List.mem_cons, List.not_mem_nil, or_false] at hp
    rcases hp with (hp | rfl) | hp
    · exact List.mem_of_mem_take hp
    · exact List.getElem_mem hi
    · exact List.mem_of_mem_drop hp
  exact ⟨h.m2, h.m7, fun p hp => h.rd p (sub p hp), h.acy.sub sub⟩
theorem atI_pr (es : List Pr) (i : Nat) (hi : i < es.length) : atI ((es.map dP).map Va.d) (i : Int) = some (vP es[i]) := by
  simp [atI, ixN, hi, List.getElem?_eq_getElem hi]
theorem grown_ex {L : LH} {n : Nat} {p : Int} {c : Nat} (hn : n < L.length) (hc : c ≤ 1000) :
    ∃ (m : Int) (es : List Pr) (p' : Int), F_l_grown [.loc n, .d (.int (c : Int))] (L.set n (P1 p)) = .ok (.d (encS m 0 1 es)) (L.set n (P1 p')) ∧ Gr m es ∧ es.length = c + 1 := by
  have loop : ∀ (ws : List Va) (es : List Pr) (m q : Int) (s4 s5 s6 s7 : Option Va), Gr m es → 0 < es.length → es.length + ws.length ≤ 1001 → ∃ (es' : List Pr) (m' q' : Int) (t4 t5 t6 t7 : Option Va), Gr m' es' ∧ es'.length = es.length + ws.length ∧
      forL (tN 4) b_l_grown_1 ws [some (.loc n), some (.d (.int (c : Int))), some (.d (.list (es.map dP))), some (.d (.int m)), s4, s5, s6, s7] (L.set n (P1 q)) =
        .nx [some (.loc n), some (.d (.int (c : Int))), some (.d (.list (es'.map dP))), some (.d (.int m')), t4, t5, t6, t7] (L.set n (P1 q')) := by
    intro ws
    induction ws with
    | nil => intro es m q s4 s5 s6 s7 h _ _; exact ⟨es, m, q, s4, s5, s6, s7, h, rfl, rfl⟩
    | cons w ws ih =>
      intro es m q s4 s5 s6 s7 h h0 hl
      simp only [List.length_cons] at hl
      obtain ⟨a, q1, a0, a1, ea⟩ := take_ex (L := L) (n := n) (p := q) (s := (es.length : Int)) hn (by omega) (log_small (by omega) (by omega))
      obtain ⟨b, q2, b0, b1, eb⟩ := take_ex (L := L) (n := n) (p := q1) (s := 2) hn (by omega)
      obtain ⟨A, rfl⟩ : ∃ A : Nat, a = (A : Int) := ⟨a.toNat, by omega⟩
      have hA : A < es.length := by omega
      have at_ := atI_pr es A hA
      have lo := cut_lo es (A : Int) (by omega) (by omega)
      have hi0 := cut_hi es (A : Int) (by omega) (by omega)
      have hi1 := cut_hi es ((A : Int) + 1) (by omega) (by omega)
      rw [show ((A : Int) + 1).toNat = A + 1 by omega] at hi1
      rw [Int.toNat_natCast] at lo hi0
      have body : ∃ (es1 : List Pr) (m1 : Int), Gr m1 es1 ∧ es1.length = es.length + 1 ∧ b_l_grown_1 [some (.loc n), some (.d (.int (c : Int))), some (.d (.list (es.map dP))), some (.d (.int m)), some w, s5, s6, s7] (L.set n (P1 q)) =
          .nx [some (.loc n), some (.d (.int (c : Int))), some (.d (.list (es1.map dP))), some (.d (.int m1)), some w, some (.d (.int A)), some (.d (.int es[A].1)), some (.d (.int es[A].2))] (L.set n (P1 q2)) := by
        have one : ∀ (es1 : List Pr) (m1 : Int), (sIf (tAndF (tVal (eOp opEq (eCall F_l_take (aCons (eVar 0) (aCons (eC (.int 2)) aNil))) (eC (.int 0)))) (tVal (eOp opLt (eVar 3) (eC (.int 7))))) (sSeq (sSet 2 (eOp opAdd (eOp opAdd (eSl (eVar 2) pNone (pSome (eVar 5))) (eDat (fLst (aCons (eTup (aCons (eVar 6) (aCons (eVar 3) aNil))) (aCons (eTup (aCons (eVar 3) (aCons (eVar 7) aNil))) aNil))))) (eSl (eVar 2) (pSome (eOp opAdd (eVar 5) (eC (.int 1)))) pNone))) (sSet 3 (eOp opAdd (eVar 3) (eC (.int 1))))) (sSet 2 (eOp opAdd (eOp opAdd (eSl (eVar 2) pNone (pSome (eVar 5))) (eDat (fLst (aCons (eTup (aCons (eVar 6) (aCons (eVar 7) aNil))) aNil)))) (eSl (eVar 2) (pSome (eVar 5)) pNone)))) [some (.loc n), some (.d (.int (c : Int))), some (.d (.list (es.map dP))), some (.d (.int m)), some w, some (.d (.int A)), some (.d (.int es[A].1)), some (.d (.int es[A].2))] (L.set n (P1 q1)) = .nx [some (.loc n), some (.d (.int (c : Int))), some (.d (.list (es1.map dP))), some (.d (.int m1)), some w, some (.d (.int A)), some (.d (.int es[A].1)), some (.d (.int es[A].2))] (L.set n (P1 q2)) →
            b_l_grown_1 [some (.loc n), some (.d (.int (c : Int))), some (.d (.list (es.map dP))), some (.d (.int m)), some w, s5, s6, s7] (L.set n (P1 q)) =
          .nx [some (.loc n), some (.d (.int (c : Int))), some (.d (.list (es1.map dP))), some (.d (.int m1)), some w, some (.d (.int A)), some (.d (.int es[A].1)), some (.d (.int es[A].2))] (L.set n (P1 q2)) := fun es1 m1 hh => by
          refine seq_nx (env1 := [some (.loc n), some (.d (.int (c : Int))), some (.d (.list (es.map dP))), some (.d (.int m)), some w, some (.d (.int A)), s6, s7]) (L1 := L.set n (P1 q1)) (by simp [-List.map_map, ea]) ?_
          refine seq_nx (env1 := [some (.loc n), some (.d (.int (c : Int))), some (.d (.list (es.map dP))), some (.d (.int m)), some w, some (.d (.int A)), some (.d (.int es[A].1)), some (.d (.int es[A].2))]) (L1 := L.set n (P1 q1)) (by simp [-List.map_map, at_]) hh
        have z1 : min A es.length + 2 + (es.length - (A + 1)) ≤ 16777216 := by omega
        have z2 : min A es.length + 2 ≤ 16777216 := by omega
        have z3 : min A es.length + 1 + (es.length - A) ≤ 16777216 := by omega
        have z4 : min A es.length + 1 ≤ 16777216 := by omega
        by_cases hb : b = 0
        · subst hb
          by_cases h7 : m < 7
          · refine ⟨_, _, h.split h7 A hA, by simp; omega, one _ _ ?_⟩
            simp [-List.map_map, eb, eqv_int, h7, Va.items, cutA_map, ← List.map_take, ← List.map_drop, lo, hi1, sizeLine_eq, z1, z2]
          · refine ⟨_, _, h.twice A hA, by simp; omega, one _ _ ?_⟩
            simp [-List.map_map, eb, eqv_int, h7, Va.items, cutA_map, ← List.map_take, ← List.map_drop, lo, hi0, sizeLine_eq, z3, z4]
        · refine ⟨_, _, h.twice A hA, by simp; omega, one _ _ ?_⟩
          simp [-List.map_map, eb, eqv_int, hb, Va.items, cutA_map, ← List.map_take, ← List.map_drop, lo, hi0, sizeLine_eq, z3, z4]
      obtain ⟨es1, m1, g1, l1, eb1⟩ := body
      obtain ⟨es', m', q', t4, t5, t6, t7, g', l', e'⟩ := ih es1 m1 q2 (some w) (some (.d (.int A))) (some (.d (.int es[A].1))) (some (.d (.int es[A].2))) g1 (by omega) (by omega)
      refine ⟨es', m', q', t4, t5, t6, t7, g', by simp only [List.length_cons]; omega, ?_⟩
      unfold forL
      simp only [u_tN, List.set_cons_succ, List.set_cons_zero]
      rw [eb1]
      exact e'
  obtain ⟨es, m, q, t4, t5, t6, t7, g, l, e⟩ := loop (rngV 0 c) [(0, 1)] 2 p none none none none ⟨by omega, by omega, by simp, ⟨fun x => x, by simp⟩⟩ (by simp) (by simp [rngV]; omega)
  refine ⟨m, es, q, ?_, g, by simp [rngV] at l; omega⟩
  refine fn_out (L' := L.set n (P1 q)) (w := .d (encS m 0 1 es)) rfl ?_ (settle_d _ _ _ _) (outV_set0 _ hn)
  refine seq_nx (env1 := [some (.loc n), some (.d (.int (c : Int))), some (.d (.list ([(0, 1)].map dP))), none, none, none, none, none]) (L1 := L.set n (P1 p)) (by simp [sizeLine_eq]) ?_
  refine seq_nx (env1 := [some (.loc n), some (.d (.int (c : Int))), some (.d (.list ([(0, 1)].map dP))), some (.d (.int 2)), none, none, none, none]) (L1 := L.set n (P1 p)) (by simp) ?_
  refine seq_nx (for_nx (srcR1_nat (by simp) (by rw [sizeLine_eq]; omega)) e) ?_
  simp [-List.map_map, Va.items, sizeLine_eq]
theorem Gr.good {m : Int} {es : List Pr} (h : Gr m es) {cnt : Int} (hc : (es.length : Int) ≤ cnt) : GoodS 7 cnt m 0 1 es :=
  have := h.m2
  ⟨h.m2, h.m7, by omega, by omega, by omega, by omega, by omega, h.rd, hc, h.acy⟩
/-- numbered otherwise: places by os, roads by rs -/
def ledP (os : List Int) (p : Pr) : Pr := (os.getD p.1.toNat 0, os.getD p.2.toNat 0)
theorem getD_at {os : List Int} {i : Nat} (hi : i < os.length) : os.getD i 0 = os[i] := by simp [List.getD, hi]
theorem GoodS.led {top cnt m b e : Int} {ps : List Pr} (h : GoodS top cnt m b e ps) {M : Nat} (hM : m = M) {os : List Int} (o : Ord M os) {qs : List Pr} (hq : ∀ q ∈ qs, ∃ p ∈ ps, q = ledP os p) (hl : qs.length = ps.length) :
    GoodS top cnt m (os.getD b.toNat 0) (os.getD e.toNat 0) qs := by
  subst hM
  have hlen := o.len
  have inn : ∀ x : Int, 0 ≤ x → x < (M : Int) → ∃ (hx : x.toNat < os.length), os.getD x.toNat 0 = os[x.toNat] ∧ 0 ≤ os[x.toNat] ∧ os[x.toNat] < (M : Int) := fun x h0 h1 => ⟨by omega, getD_at (by omega), o.bd _ (List.getElem_mem _)⟩
  have inj : ∀ x y : Int, 0 ≤ x → x < (M : Int) → 0 ≤ y → y < (M : Int) → os.getD x.toNat 0 = os.getD y.toNat 0 → x = y := fun x y x0 x1 y0 y1 e => by
    obtain ⟨hx, ex, _⟩ := inn x x0 x1
    obtain ⟨hy, ey, _⟩ := inn y y0 y1
    rw [ex, ey] at e
    have := (List.getElem_inj o.nd).mp e
    omega
  obtain ⟨hb, eb, b0, b1⟩ := inn b h.b0 h.b1
  obtain ⟨he, ee, e0, e1⟩ := inn e h.e0 h.e1
  refine ⟨h.m2, h.mt, by rw [eb]; exact b0, by rw [eb]; exact b1, by rw [ee]; exact e0, by rw [ee]; exact e1, fun z => h.be (inj _ _ h.b0 h.b1 h.e0 h.e1 z), fun q hq' => ?_, by rw [hl]; exact h.len, ?_⟩
  · obtain ⟨p, hp, rfl⟩ := hq q hq'
    obtain ⟨p0, p1, p2, p3, p4⟩ := h.rd p hp
    obtain ⟨hu, eu, u0, u1⟩ := inn p.1 p0 p1
    obtain ⟨hv, ev, v0, v1⟩ := inn p.2 p2 p3
    exact ⟨by show 0 ≤ os.getD p.1.toNat 0; rw [eu]; exact u0, by show os.getD p.1.toNat 0 < _; rw [eu]; exact u1, by show 0 ≤ os.getD p.2.toNat 0; rw [ev]; exact v0, by show os.getD p.2.toNat 0 < _; rw [ev]; exact v1, fun z => p4 (inj _ _ p0 p1 h.e0 h.e1 z)⟩
  · obtain ⟨r, hr⟩ := h.acy
    refine ⟨fun y => r (rank os y), fun q hq' => ?_⟩
    obtain ⟨p, hp, rfl⟩ := hq q hq'
    obtain ⟨p0, p1, p2, p3, p4⟩ := h.rd p hp
    obtain ⟨hu, eu, _⟩ := inn p.1 p0 p1
    obtain ⟨hv, ev, _⟩ := inn p.2 p2 p3
    have := hr p hp
    show r (rank os (os.getD p.1.toNat 0)) < r (rank os (os.getD p.2.toNat 0))
    rw [eu, ev, rank_at o.nd hu, rank_at o.nd hv, Int.toNat_of_nonneg p0, Int.toNat_of_nonneg p2]
    exact this
theorem numbered_ex {L : LH} {n : Nat} {p : Int} {top cnt m b e : Int} {ps : List Pr} (h : GoodS top cnt m b e ps) (ht : top ≤ 10000) (hc : cnt ≤ 10000) (hn : n < L.length) :
    ∃ (b' e' : Int) (qs : List Pr) (p' : Int), F_l_numbered [.loc n, .d (encS m b e ps)] (L.set n (P1 p)) = .ok (.d (encS m b' e' qs)) (L.set n (P1 p')) ∧ GoodS top cnt m b' e' qs := by
  obtain ⟨M, hM⟩ : ∃ M : Nat, m = (M : Int) := ⟨m.toNat, by have := h.m2; omega⟩
  have hmt := h.mt
  have hlt := h.len
  obtain ⟨os, p1, eo, o⟩ := order_ex (L := L) (n := n) (p := p) (m := M) hn (by omega)
  obtain ⟨rs, p2, er, o2⟩ := order_ex (L := L) (n := n) (p := p1) (m := ps.length) hn (by omega)
  have hlen := o.len
  have at_ : ∀ x : Int, 0 ≤ x → x < m → atI ((os.map PyData.int).map Va.d) x = some (.d (.int (os.getD x.toNat 0))) := fun x x0 x1 => by
    have := atI_int os x.toNat (by omega)
    rw [Int.toNat_of_nonneg x0] at this
    rw [this, getD_at (by omega)]
  have rows : ∀ M : LH, fComp (srcV (eVar 5)) (tTupT 2 (tgCons (tN 8) (tgCons (tN 9) tgNil))) tTrue (eTup (aCons (eOp opIx (eVar 6) (eVar 8)) (aCons (eOp opIx (eVar 6) (eVar 9)) aNil))) [8, 9] [some (.loc n), some (.d (encS m b e ps)), some (.d (.int m)), some (.d (.int b)), some (.d (.int e)), some (.d (.tuple (ps.map dP))), some (.d (.list (os.map .int))), none, none, none, none] M =
      .ok (.lst (((ps.map (ledP os)).map dP).map Va.d)) M := fun M => by
    rw [fComp_tym (enc := vP) (h := fun p => vP (ledP os p)) (xs := ps) (by simp [srcOf]) (by rw [sizeLine_eq]; omega) (fun q hq => ⟨_, rfl, by
      obtain ⟨q0, q1, q2, q3, _⟩ := h.rd q hq
      have a1 := at_ q.1 q0 q1
      have a2 := at_ q.2 q2 q3
      simp only [wipeE, List.set_cons_succ, List.set_cons_zero]
      simp [-List.map_map, a1, a2, sizeLine_eq, ledP]⟩)]
    simp
  have cut : fComp (srcV (eCall F_l_order_of (aCons (eVar 0) (aCons (eCallB cLen (aCons (eVar 7) aNil)) aNil)))) (tN 10) tTrue (eOp opIx (eVar 7) (eVar 10)) [10] [some (.loc n), some (.d (encS m b e ps)), some (.d (.int m)), some (.d (.int b)), some (.d (.int e)), some (.d (.tuple (ps.map dP))), some (.d (.list (os.map .int))), some (.d (.list ((ps.map (ledP os)).map dP))), none, none, none] (L.set n (P1 p1)) =
      .ok (.lst (((rs.map fun r => (ps.map (ledP os)).getD r.toNat (0, 0)).map dP).map Va.d)) (L.set n (P1 p2)) := by
    have hs : srcV (eCall F_l_order_of (aCons (eVar 0) (aCons (eCallB cLen (aCons (eVar 7) aNil)) aNil))) [some (.loc n), some (.d (encS m b e ps)), some (.d (.int m)), some (.d (.int b)), some (.d (.int e)), some (.d (.tuple (ps.map dP))), some (.d (.list (os.map .int))), some (.d (.list ((ps.map (ledP os)).map dP))), none, none, none] (L.set n (P1 p1)) = .ok (rs.map vI, none) (L.set n (P1 p2)) := by
      simp [er, srcOf]
    unfold fComp
    rw [hs]
    have hz : (rs.map vI).length ≤ sizeLine := by rw [List.length_map, o2.len, sizeLine_eq]; omega
    simp only [Res.bind_ok, if_pos hz, lockL_none]
    have := compL_ty (g := tN 10) (t := tTrue) (f := eOp opIx (eVar 7) (eVar 10)) (env := wipeE [some (.loc n), some (.d (encS m b e ps)), some (.d (.int m)), some (.d (.int b)), some (.d (.int e)), some (.d (.tuple (ps.map dP))), some (.d (.list (os.map .int))), some (.d (.list ((ps.map (ledP os)).map dP))), none, none, none] [10]) (L := L.set n (P1 p2)) vI (fun _ => true) (fun r => vP ((ps.map (ledP os)).getD r.toNat (0, 0))) rs (fun r hr => ⟨_, rfl, rfl, fun _ => by
      have hb := o2.bd r hr
      have hlt : r.toNat < (ps.map (ledP os)).length := by simp; omega
      have a := atI_pr (ps.map (ledP os)) r.toNat hlt
      rw [Int.toNat_of_nonneg hb.1] at a
      have g : (ps.map (ledP os)).getD r.toNat (0, 0) = (ps.map (ledP os))[r.toNat] := by simp only [List.getD, List.getElem?_eq_getElem hlt, Option.getD_some]
      simp only [wipeE, List.set_cons_succ, List.set_cons_zero, u_eOp, u_eVar, List.getElem?_cons_succ, List.getElem?_cons_zero, Res.bind_ok, u_opIx, dget_d, seq_list, u_tN, a, g]⟩)
    rw [this, List.filter_eq_self.mpr (fun _ _ => rfl)]
    simp
  refine ⟨os.getD b.toNat 0, os.getD e.toNat 0, rs.map fun r => (ps.map (ledP os)).getD r.toNat (0, 0), p2, ?_, h.led hM o (fun q hq => ?_) (by simp [o2.len])⟩
  · refine fn_out (L' := L.set n (P1 p2)) (w := .d (encS m (os.getD b.toNat 0) (os.getD e.toNat 0) (rs.map fun r => (ps.map (ledP os)).getD r.toNat (0, 0)))) rfl ?_ (settle_d _ _ _ _) (outV_set0 _ hn)
    refine seq_nx (env1 := [some (.loc n), some (.d (encS m b e ps)), some (.d (.int m)), some (.d (.int b)), some (.d (.int e)), some (.d (.tuple (ps.map dP))), none, none, none, none, none]) (L1 := L.set n (P1 p)) (by simp) ?_
    refine seq_nx (env1 := [some (.loc n), some (.d (encS m b e ps)), some (.d (.int m)), some (.d (.int b)), some (.d (.int e)), some (.d (.tuple (ps.map dP))), some (.d (.list (os.map .int))), none, none, none, none]) (L1 := L.set n (P1 p1)) (by simp only [hM]; simp [eo]) ?_
    refine seq_nx (env1 := [some (.loc n), some (.d (encS m b e ps)), some (.d (.int m)), some (.d (.int b)), some (.d (.int e)), some (.d (.tuple (ps.map dP))), some (.d (.list (os.map .int))), some (.d (.list ((ps.map (ledP os)).map dP))), none, none, none]) (L1 := L.set n (P1 p1)) (by simp only [u_sSet, u_eDat, rows, Res.bind_ok, va_lst, then_ok, List.set_cons_succ, List.set_cons_zero]) ?_
    have a1 := at_ b h.b0 h.b1
    have a2 := at_ e h.e0 h.e1
    simp only [u_sRet, u_eTup, u_aCons, u_eVar, List.getElem?_cons_succ, List.getElem?_cons_zero, Res.bind_ok, u_eOp, u_opIx, dget_d, seq_list, a1, a2, u_eCallB, u_eDat, cut, va_lst, u_aNil]
    simp [-List.map_map, Va.items, sizeLine_eq]
  · obtain ⟨r, hr, rfl⟩ := List.mem_map.mp hq
    have hb := o2.bd r hr
    have hlt : r.toNat < ps.length := by omega
    refine ⟨ps[r.toNat], List.getElem_mem hlt, ?_⟩
    simp [List.getD, hlt]
end L2.HW
/-! TBS: bent shapes. -/
namespace L2.HW
open PySem PySem.Spec PyProof.Rows
def odds14s : List PyData := [.none, .bool true, .bool false, .int 0, .int 1, .int 2, .int (-1), .str "", .str "a", .tuple [], .list [], .tuple [.int 0, .int 1], .tuple [.int 1, .int 0], .tuple [.int 0, .int 0]]
theorem oddss_ok : ∀ x ∈ odds14s, fine x = true ∧ x.depth ≤ 1 ∧ x.bulk ≤ 4 := by decide +kernel
theorem bents_ex : ∀ (deep : Nat) (k : Nat) (x : PyData) (d b : Nat) (L : LH) (n : Nat) (p : Int), deep < k → n < L.length → d ≤ 50 → b ≤ 4000 → Ok d b x →
    ∃ y p', F_l_bent_v2 k [.loc n, .d x, .d (.int deep)] (L.set n (P1 p)) = .ok (.d y) (L.set n (P1 p')) ∧ Ok (d + 2) (b + 20) y := by
  intro deep
  induction deep with
  | zero =>
    intro k x d b L n p hk hn hd hb hx
    obtain ⟨k, rfl⟩ : ∃ j, k = j + 1 := ⟨k - 1, by omega⟩
    obtain ⟨o, p1, o0, o1, eo⟩ := take_ex (p := p) (s := 14) hn (by omega)
    obtain ⟨t, p2, t0, t1, et⟩ := take_ex (p := p1) (s := 3) hn (by omega)
    obtain ⟨odd, hodd, ho⟩ := atI_map odds14s o o0 (by simpa [odds14s] using o1)
    simp only [odds14s, List.map_cons, List.map_nil] at ho
    have ok := oddss_ok odd hodd
    obtain ⟨y, hy, oky⟩ := ret3 hx ok t0 t1
    have sx : SeqAt.shaped x = true := shaped_of hx.1 (by have := hx.2.1; omega)
    have c0 : cmpOk x (.tuple []) = true := cmpOk_of sx (by decide)
    refine ⟨y, p2, ?_, oky⟩
    cases x with
    | tuple xs =>
      by_cases hxs : xs = []
      · subst hxs
        simp [F_l_bent_v2, b_l_bent_v2, mkFn, Va.kind, isKind, eo, ho, et, hy, c0, eqv_t0, eqv_int, sizeLine_eq, outV_set0, hn]
      · simp [F_l_bent_v2, b_l_bent_v2, mkFn, Va.kind, isKind, eo, ho, et, hy, c0, eqv_t0, eqv_int, sizeLine_eq, outV_set0, hn, hxs]
    | _ => simp [F_l_bent_v2, b_l_bent_v2, mkFn, Va.kind, isKind, eo, ho, et, hy, eqv_int, sizeLine_eq, outV_set0, hn]
  | succ deep ih =>
    intro k x d b L n p hk hn hd hb hx
    obtain ⟨k, rfl⟩ : ∃ j, k = j + 1 := ⟨k - 1, by omega⟩
    obtain ⟨o, p1, o0, o1, eo⟩ := take_ex (p := p) (s := 14) hn (by omega)
    obtain ⟨odd, hodd, ho⟩ := atI_map odds14s o o0 (by simpa [odds14s] using o1)
    simp only [odds14s, List.map_cons, List.map_nil] at ho
    have ok := oddss_ok odd hodd
    have sx : SeqAt.shaped x = true := shaped_of hx.1 (by have := hx.2.1; omega)
    have c0 : cmpOk x (.tuple []) = true := cmpOk_of sx (by decide)
    generalize hD : ((deep + 1 : Nat) : Int) = D
    have hD1 : D - 1 = (deep : Int) := by omega
    have hD0 : ¬ D = 0 := by omega
    have plain : ∀ xs' : List PyData, x = .tuple xs' → xs' = [] ∨ True := fun _ _ => .inr trivial
    by_cases hT : ∃ xs, x = .tuple xs ∧ xs ≠ []
    · obtain ⟨xs, rfl, hxs⟩ := hT
      obtain ⟨s6, p2, s0, s1, es⟩ := take_ex (p := p1) (s := 6) hn (by omega)
      by_cases h6 : s6 = 0
      · subst h6
        obtain ⟨t, p3, t0, t1, et⟩ := take_ex (p := p2) (s := 3) hn (by omega)
        obtain ⟨y, hy, oky⟩ := ret3 hx ok t0 t1
        exact ⟨y, p3, by simp [F_l_bent_v2, b_l_bent_v2, mkFn, Va.kind, isKind, eo, ho, es, et, hy, c0, eqv_t0, eqv_int, sizeLine_eq, outV_set0, hn, hxs, hD0], oky⟩
      · have hlen : 0 < xs.length := List.length_pos_iff.mpr hxs
        have hb2 : xs.length ≤ b := by
          have h1 := hx.2.2
          have h2 := len_bulk xs
          simp only [PyData.bulk] at h1
          omega
        obtain ⟨sp, p3, sp0, sp1, esp⟩ := take_ex (p := p2) (s := (xs.length : Int)) hn (by omega) (log_small (by omega) (by omega))
        obtain ⟨wy, p4, w0, w1, ew⟩ := take_ex (p := p3) (s := 8) hn (by omega)
        obtain ⟨d', rfl⟩ : ∃ d', d = d' + 1 := by
          have := hx.2.1
          simp only [PyData.depth] at this
          exact ⟨d - 1, by omega⟩
        have hx' := ok_tuple_iff.mp hx
        have hlt : sp.toNat < xs.length := by omega
        have lo := cut_lo xs sp sp0 (by omega)
        have hi0 := cut_hi xs sp sp0 (by omega)
        have hi := cut_hi xs (sp + 1) (by omega) (by omega)
        have esp1 : (sp + 1).toNat = sp.toNat + 1 := by omega
        rw [esp1] at hi
        have bk := bulk_take_drop xs sp.toNat hlt
        have sz1 : min sp.toNat xs.length + (xs.length - (sp.toNat + 1)) ≤ 16777216 := by omega
        have inT : ∀ z ∈ xs.take sp.toNat, fine z = true ∧ z.depth ≤ d' := fun z hz => hx'.1 z (List.mem_of_mem_take hz)
        have inD : ∀ j, ∀ z ∈ xs.drop j, fine z = true ∧ z.depth ≤ d' := fun j z hz => hx'.1 z (List.mem_of_mem_drop hz)
        by_cases w_0 : wy = 0
        · subst w_0
          refine ⟨.tuple (xs.take sp.toNat ++ xs.drop (sp.toNat + 1)), p4, ?_, ?_⟩
          · simp [F_l_bent_v2, b_l_bent_v2, mkFn, Va.kind, isKind, eo, ho, es, c0, eqv_t0, eqv_int, sizeLine_eq, outV_set0, hn, hxs, hD0, h6, esp, ew, lo, hi, sz1]
          · refine (ok_tuple_iff (d := d') (b := b)).mpr ⟨fun z hz => ?_, by rw [bulkAll_app]; omega⟩ |>.mono (by omega) (by omega)
            rcases List.mem_append.mp hz with hz | hz
            · exact inT z hz
            · exact inD _ z hz
        · by_cases w_1 : wy = 1
          · subst w_1
            have sz2 : min sp.toNat xs.length + 1 + (xs.length - sp.toNat) ≤ 16777216 := by omega
            have sz3 : min sp.toNat xs.length + 1 ≤ 16777216 := by omega
            refine ⟨.tuple (xs.take sp.toNat ++ [odd] ++ xs.drop sp.toNat), p4, ?_, ?_⟩
            · simp [F_l_bent_v2, b_l_bent_v2, mkFn, Va.kind, isKind, eo, ho, es, c0, eqv_t0, eqv_int, sizeLine_eq, outV_set0, hn, hxs, hD0, h6, esp, ew, lo, hi0, sz2, sz3]
            · have e := congrArg PyData.bulkAll (List.take_append_drop sp.toNat xs)
              rw [bulkAll_app] at e
              have ob := ok.2.2
              have od := ok.2.1
              refine (ok_tuple_iff (d := d' + 1) (b := b + 20)).mpr ⟨fun z hz => ?_, ?_⟩ |>.mono (by omega) (Nat.le_refl _)
              · simp only [List.mem_append, List.mem_singleton] at hz
                rcases hz with (hz | hz) | hz
                · have := inT z hz; exact ⟨this.1, by omega⟩
                · rw [hz]; exact ⟨ok.1, by omega⟩
                · have := inD _ z hz; exact ⟨this.1, by omega⟩
              · rw [bulkAll_app, bulkAll_app]; simp only [PyData.bulkAll]; omega
          · by_cases w_2 : wy = 2
            · subst w_2
              refine ⟨.tuple xs.reverse, p4, ?_, ?_⟩
              · simp [F_l_bent_v2, b_l_bent_v2, mkFn, Va.kind, isKind, eo, ho, es, c0, eqv_t0, eqv_int, sizeLine_eq, outV_set0, hn, hxs, hD0, h6, esp, ew]
              · refine (ok_tuple_iff (d := d') (b := b)).mpr ⟨fun z hz => hx'.1 z (List.mem_reverse.mp hz), by rw [bulk_rev]; exact hx'.2⟩ |>.mono (by omega) (by omega)
            · have okz : Ok d' b xs[sp.toNat] := by
                have := hx'.1 _ (List.getElem_mem hlt)
                exact ⟨this.1, this.2, by omega⟩
              have okz2 : Ok d' (xs[sp.toNat].bulk) xs[sp.toNat] := ⟨okz.1, okz.2.1, Nat.le_refl _⟩
              obtain ⟨y, p5, ey, oky⟩ := ih k xs[sp.toNat] d' xs[sp.toNat].bulk L n p4 (by omega) hn (by omega) (by omega) okz2
              have at_ : atI (xs.map Va.d) sp = some (.d xs[sp.toNat]) := by
                simp [atI, ixN, sp0, sp1, List.getElem?_eq_getElem hlt]
              have sz2 : min sp.toNat xs.length + 1 + (xs.length - (sp.toNat + 1)) ≤ 16777216 := by omega
              have sz3 : min sp.toNat xs.length + 1 ≤ 16777216 := by omega
              refine ⟨.tuple (xs.take sp.toNat ++ [y] ++ xs.drop (sp.toNat + 1)), p5, ?_, ?_⟩
              · simp [F_l_bent_v2, b_l_bent_v2, mkFn, Va.kind, isKind, eo, ho, es, c0, eqv_t0, eqv_int, sizeLine_eq, outV_set0, hn, hxs, hD0, h6, esp, ew, w_0, w_1, w_2, at_, hD1, ey, lo, hi, sz2, sz3]
              · have ob := oky.2.2
                have od := oky.2.1
                refine (ok_tuple_iff (d := d' + 2) (b := b + 20)).mpr ⟨fun z hz => ?_, ?_⟩ |>.mono (by omega) (Nat.le_refl _)
                · simp only [List.mem_append, List.mem_singleton] at hz
                  rcases hz with (hz | hz) | hz
                  · have := inT z hz; exact ⟨this.1, by omega⟩
                  · rw [hz]; exact ⟨oky.1, by omega⟩
                  · have := inD _ z hz; exact ⟨this.1, by omega⟩
                · rw [bulkAll_app, bulkAll_app]; simp only [PyData.bulkAll]; omega
    · obtain ⟨t, p3, t0, t1, et⟩ := take_ex (p := p1) (s := 3) hn (by omega)
      obtain ⟨y, hy, oky⟩ := ret3 hx ok t0 t1
      refine ⟨y, p3, ?_, oky⟩
      cases x with
      | tuple xs =>
        have hxs : xs = [] := by
          by_cases z : xs = []
          · exact z
          · exact absurd ⟨xs, rfl, z⟩ hT
        subst hxs
        simp [F_l_bent_v2, b_l_bent_v2, mkFn, Va.kind, isKind, eo, ho, et, hy, c0, eqv_t0, eqv_int, sizeLine_eq, outV_set0, hn]
      | _ => simp [F_l_bent_v2, b_l_bent_v2, mkFn, Va.kind, isKind, eo, ho, et, hy, eqv_int, sizeLine_eq, outV_set0, hn]
end L2.HW
/-! TL: bad shapes; the law k30. -/
namespace L2.HW
open PySem PySem.Spec PyProof.Rows
/-! ### cells behind the old ones -/
@[simp] theorem getK (L g : LH) (k : Nat) : (L ++ g)[L.length + k]? = g[k]? := by rw [List.getElem?_append_right (by omega)]; simp
@[simp] theorem setK (L g : LH) (k : Nat) (o : Option Ob) : (L ++ g).set (L.length + k) o = L ++ g.set k o := by rw [List.set_append_right _ _ (by omega)]; simp
theorem settleK (L g : LH) (k : Nat) (xs : List PyData) (h : g[k]? = some (some (.lst (xs.map Va.d)))) : settle (L ++ g) L.length 9 (.loc (L.length + k)) = some (.d (.list xs)) := by
  rw [settle_loc, if_neg (by omega), getK, h]
  exact settleO_d _ _ _ _
def badS (x : PyData) : Prop := fine x = true ∧ x.depth ≤ 6 ∧ x.bulk ≤ 100 ∧ shapeB x = false
instance (x : PyData) : Decidable (badS x) := by unfold badS; infer_instance
def bs0 : List PyData := [.none, .int 0, .bool true, .str "", .tuple [], .list [], .tuple [.int 2, .int 0, .int 1], .tuple [.int 2, .int 0, .int 1, .tuple [], .tuple []], .list [.int 2, .int 0, .int 1, .tuple []], .tuple [.int 2, .int 0, .int 1, .list []], .tuple [.int 2, .int 0, .int 1, .none]]
def bsA : List PyData := [.int 1, .int 0, .int (-1), .bool true, .none, .str "2"]
def bsB : List PyData := [.int 2, .int (-1), .bool true, .none, .str "1", .tuple [.int 1]]
def bsC : List PyData := [.none, .tuple [], .tuple [.int 0], .tuple [.int 0, .int 1, .int 1], .list [.int 0, .int 1], .tuple [.int 1, .int 0], .tuple [.int 0, .int 0], .tuple [.int 0, .int 2], .tuple [.int (-1), .int 1], .tuple [.bool false, .int 1], .tuple [.int 0, .bool true], .tuple [.str "0", .int 1], .int 0, .tuple [.int 0, .int (-1)], .tuple [.int 2, .int 1]]
def s01 : PyData := .tuple [.int 0, .int 1]
def mk4 (a b c : PyData) (ps : List PyData) : PyData := .tuple [a, b, c, .tuple ps]
def stA (xs : List PyData) (o : PyData) : List PyData := xs ++ [mk4 o (.int 0) (.int 1) []]
def stB (xs : List PyData) (o : PyData) : List PyData := xs ++ [mk4 (.int 2) o (.int 1) [], mk4 (.int 2) (.int 0) o []]
def stC (xs : List PyData) (o : PyData) : List PyData := xs ++ [mk4 (.int 2) (.int 0) (.int 1) [o], mk4 (.int 2) (.int 0) (.int 1) [s01, o], mk4 (.int 2) (.int 0) (.int 1) [s01, o, s01]]
def bs1 : List PyData := [mk4 (.int 2) (.int 0) (.int 0) [], mk4 (.int 3) (.int 0) (.int 2) [dP (0, 1), dP (1, 0)], mk4 (.int 4) (.int 0) (.int 3) [dP (0, 1), dP (1, 2), dP (2, 1), dP (2, 3)]]
def bs2 : List PyData := [mk4 (.int 5) (.int 0) (.int 4) [dP (0, 1), dP (1, 2), dP (2, 3), dP (3, 1), dP (3, 4)], mk4 (.int 5) (.int 0) (.int 4) [dP (1, 2), dP (2, 3), dP (3, 1)]]
def bs3 : List PyData := [mk4 (.int 4) (.int 0) (.int 3) [dP (1, 2), dP (2, 1)]]
def badShapes : List PyData := bsC.foldl stC (bsB.foldl stB (bsA.foldl stA bs0)) ++ bs1 ++ bs2 ++ bs3
theorem badS_all : ∀ x ∈ badShapes, badS x := by decide +kernel
theorem lastG (g : LH) (o : Option Ob) : (g ++ [o])[g.length]? = some o := by simp
theorem setG (g : LH) (o o' : Option Ob) : (g ++ [o]).set g.length o' = g ++ [o'] := by rw [List.set_append_right _ _ (Nat.le_refl _)]; simp
theorem badA (L : LH) : ∀ (os xs : List PyData) (g : LH) (a b c : Option Va), xs.length + 3 * os.length ≤ 1000 → ∃ (g' : LH) (a' b' : Option Va), forL (tN 1) b_l_bad_shapes_1 (os.map Va.d) [some (.loc (L.length + g.length)), a, b, c] (L ++ (g ++ [some (.lst (xs.map Va.d))])) = .nx [some (.loc (L.length + g'.length)), a', b', c] (L ++ (g' ++ [some (.lst ((os.foldl stA xs).map Va.d))]))
  | [], xs, g, a, b, c, _ => ⟨g, a, b, rfl⟩
  | o :: os, xs, g, a, b, c, h => by
    simp only [List.length_cons] at h
    have hl : (stA xs o).length ≤ xs.length + 3 := by simp [stA]
    have z1 : xs.length + 1 ≤ 16777216 := by omega
    have z2 : xs.length < 16777216 := by omega
    have s1 : ∃ g1 : LH, b_l_bad_shapes_1 ([some (.loc (L.length + g.length)), a, b, c].set 1 (some (.d o))) (L ++ (g ++ [some (.lst (xs.map Va.d))])) = .nx ([some (.loc (L.length + g1.length)), a, b, c].set 1 (some (.d o))) (L ++ (g1 ++ [some (.lst ((stA xs o).map Va.d))])) := by
      refine ⟨g, ?_⟩
      have e := getK L (g ++ [some (.lst (xs.map Va.d))]) g.length
      have e2 := fun o => setK L (g ++ [some (.lst (xs.map Va.d))]) g.length o
      rw [lastG] at e
      simp only [setG] at e2
      simp [b_l_bad_shapes_1, e, e2, z2, sizeLine_eq, stA, mk4]
    obtain ⟨g1, e1⟩ := s1
    simp only [List.set_cons_succ, List.set_cons_zero] at e1
    obtain ⟨g', a', b', e'⟩ := badA L os (stA xs o) g1 (some (.d o)) b c (by omega)
    refine ⟨g', a', b', ?_⟩
    rw [List.map_cons]
    unfold forL
    simp only [u_tN, List.set_cons_succ, List.set_cons_zero, e1]
    exact e'
theorem badB (L : LH) : ∀ (os xs : List PyData) (g : LH) (a b c : Option Va), xs.length + 3 * os.length ≤ 1000 → ∃ (g' : LH) (a' b' : Option Va), forL (tN 2) b_l_bad_shapes_2 (os.map Va.d) [some (.loc (L.length + g.length)), a, b, c] (L ++ (g ++ [some (.lst (xs.map Va.d))])) = .nx [some (.loc (L.length + g'.length)), a', b', c] (L ++ (g' ++ [some (.lst ((os.foldl stB xs).map Va.d))]))
  | [], xs, g, a, b, c, _ => ⟨g, a, b, rfl⟩
  | o :: os, xs, g, a, b, c, h => by
    simp only [List.length_cons] at h
    have hl : (stB xs o).length ≤ xs.length + 3 := by simp [stB]
    have z1 : xs.length + 2 ≤ 16777216 := by omega
    have z2 : xs.length < 16777216 := by omega
    have s1 : ∃ g1 : LH, b_l_bad_shapes_2 ([some (.loc (L.length + g.length)), a, b, c].set 2 (some (.d o))) (L ++ (g ++ [some (.lst (xs.map Va.d))])) = .nx ([some (.loc (L.length + g1.length)), a, b, c].set 2 (some (.d o))) (L ++ (g1 ++ [some (.lst ((stB xs o).map Va.d))])) := by
      refine ⟨g ++ [some (.lst (xs.map Va.d))], ?_⟩
      have e := getK L (g ++ [some (.lst (xs.map Va.d))]) g.length
      rw [lastG] at e
      simp [b_l_bad_shapes_2, e, z1, sizeLine_eq, stB, mk4, Va.items]
    obtain ⟨g1, e1⟩ := s1
    simp only [List.set_cons_succ, List.set_cons_zero] at e1
    obtain ⟨g', a', b', e'⟩ := badB L os (stB xs o) g1 a (some (.d o)) c (by omega)
    refine ⟨g', a', b', ?_⟩
    rw [List.map_cons]
    unfold forL
    simp only [u_tN, List.set_cons_succ, List.set_cons_zero, e1]
    exact e'
theorem badC (L : LH) : ∀ (os xs : List PyData) (g : LH) (a b c : Option Va), xs.length + 3 * os.length ≤ 1000 → ∃ (g' : LH) (a' b' : Option Va), forL (tN 2) b_l_bad_shapes_3 (os.map Va.d) [some (.loc (L.length + g.length)), a, b, c] (L ++ (g ++ [some (.lst (xs.map Va.d))])) = .nx [some (.loc (L.length + g'.length)), a', b', c] (L ++ (g' ++ [some (.lst ((os.foldl stC xs).map Va.d))]))
  | [], xs, g, a, b, c, _ => ⟨g, a, b, rfl⟩
  | o :: os, xs, g, a, b, c, h => by
    simp only [List.length_cons] at h
    have hl : (stC xs o).length ≤ xs.length + 3 := by simp [stC]
    have z1 : xs.length + 3 ≤ 16777216 := by omega
    have z2 : xs.length < 16777216 := by omega
    have s1 : ∃ g1 : LH, b_l_bad_shapes_3 ([some (.loc (L.length + g.length)), a, b, c].set 2 (some (.d o))) (L ++ (g ++ [some (.lst (xs.map Va.d))])) = .nx ([some (.loc (L.length + g1.length)), a, b, c].set 2 (some (.d o))) (L ++ (g1 ++ [some (.lst ((stC xs o).map Va.d))])) := by
      refine ⟨g ++ [some (.lst (xs.map Va.d))], ?_⟩
      have e := getK L (g ++ [some (.lst (xs.map Va.d))]) g.length
      rw [lastG] at e
      simp [b_l_bad_shapes_3, e, z1, sizeLine_eq, stC, mk4, s01, Va.items]
    obtain ⟨g1, e1⟩ := s1
    simp only [List.set_cons_succ, List.set_cons_zero] at e1
    obtain ⟨g', a', b', e'⟩ := badC L os (stC xs o) g1 a (some (.d o)) c (by omega)
    refine ⟨g', a', b', ?_⟩
    rw [List.map_cons]
    unfold forL
    simp only [u_tN, List.set_cons_succ, List.set_cons_zero, e1]
    exact e'
theorem itemsK {L g : LH} {k : Nat} {xs : List PyData} (h : g[k]? = some (some (Ob.lst (xs.map Va.d)))) : Va.items (L ++ g) (.loc (L.length + k)) = some (xs.map Va.d) := by
  simp only [Va.items, getK, h]
theorem bad_shapes_ex (L : LH) : F_l_bad_shapes [] L = .ok (.d (.list badShapes)) L := by
  obtain ⟨g1, a1, b1, e1⟩ := badA L bsA bs0 [] none none none (by decide)
  obtain ⟨g2, a2, b2, e2⟩ := badB L bsB (bsA.foldl stA bs0) g1 a1 b1 none (by decide)
  obtain ⟨g3, a3, b3, e3⟩ := badC L bsC (bsB.foldl stB (bsA.foldl stA bs0)) g2 a2 b2 (some (.d (.list bsC))) (by decide)
  generalize hX : bsC.foldl stC (bsB.foldl stB (bsA.foldl stA bs0)) = X at e3
  have hlen : X.length ≤ 1000 := by rw [← hX]; decide
  have hB : badShapes = X ++ bs1 ++ bs2 ++ bs3 := by rw [← hX]; rfl
  have i1 := itemsK (L := L) (lastG g3 (some (.lst (X.map Va.d))))
  obtain ⟨M1, hM1⟩ : ∃ M1, M1 = L ++ (g3 ++ [some (Ob.lst (X.map Va.d))]) := ⟨_, rfl⟩
  rw [← hM1] at i1 e3
  have z1 : X.length + 3 ≤ 16777216 := by omega
  have z2 : X.length + 5 ≤ 16777216 := by omega
  have z3 : X.length + 6 ≤ 16777216 := by omega
  refine fn_out (L' := M1 ++ [some (.lst ((X ++ bs1).map Va.d))] ++ [some (.lst ((X ++ bs1 ++ bs2).map Va.d))]) (w := .d (.list badShapes)) rfl ?_ (settle_d _ _ _ _) (by rw [hM1]; simp only [List.append_assoc]; exact outV_app _ _ _)
  refine seq_nx (env1 := [some (.loc (L.length + ([] : LH).length)), none, none, none]) (L1 := L ++ ([] ++ [some (.lst (bs0.map Va.d))])) (by simp [sizeLine_eq, bs0]) ?_
  refine seq_nx (for_nx (ws := bsA.map Va.d) (by simp [srcOf, sizeLine_eq, bsA]) e1) ?_
  refine seq_nx (for_nx (ws := bsB.map Va.d) (by simp [srcOf, sizeLine_eq, bsB]) e2) ?_
  refine seq_nx (env1 := [some (.loc (L.length + g2.length)), a2, b2, some (.d (.list (bsC.take 13)))]) (L1 := L ++ (g2 ++ [some (.lst ((bsB.foldl stB (bsA.foldl stA bs0)).map Va.d))])) (by simp [sizeLine_eq, bsC]) ?_
  refine seq_nx (env1 := [some (.loc (L.length + g2.length)), a2, b2, some (.d (.list bsC))]) (L1 := L ++ (g2 ++ [some (.lst ((bsB.foldl stB (bsA.foldl stA bs0)).map Va.d))])) (by simp [sizeLine_eq, bsC, Va.items]) ?_
  refine seq_nx (for_nx (ws := bsC.map Va.d) (by simp [srcOf]) e3) ?_
  refine seq_nx (env1 := [some (.loc M1.length), a3, b3, some (.d (.list bsC))]) (L1 := M1 ++ [some (.lst ((X ++ bs1).map Va.d))]) (by simp [i1, sizeLine_eq, z1, bs1, mk4]) ?_
  refine seq_nx (env1 := [some (.loc (M1 ++ [some (Ob.lst ((X ++ bs1).map Va.d))]).length), a3, b3, some (.d (.list bsC))]) (L1 := M1 ++ [some (.lst ((X ++ bs1).map Va.d))] ++ [some (.lst ((X ++ bs1 ++ bs2).map Va.d))]) ?_ ?_
  · have i2 : Va.items (M1 ++ [some (.lst ((X ++ bs1).map Va.d))]) (.loc M1.length) = some ((X ++ bs1).map Va.d) := by simp [Va.items]
    have l1 : bs1.length = 3 := rfl
    generalize M1 ++ [some (Ob.lst ((X ++ bs1).map Va.d))] = M2 at i2 ⊢
    simp [i2, sizeLine_eq, z2, l1, bs2, mk4, Nat.add_assoc]
  · have i3 : Va.items (M1 ++ [some (.lst ((X ++ bs1).map Va.d))] ++ [some (.lst ((X ++ bs1 ++ bs2).map Va.d))]) (.loc (M1 ++ [some (Ob.lst ((X ++ bs1).map Va.d))]).length) = some ((X ++ bs1 ++ bs2).map Va.d) := by simp only [Va.items, app_get]
    have l1 : bs1.length = 3 := rfl
    have l2 : bs2.length = 2 := rfl
    generalize M1 ++ [some (Ob.lst ((X ++ bs1).map Va.d))] = M2 at i3 ⊢
    generalize M2 ++ [some (Ob.lst ((X ++ bs1 ++ bs2).map Va.d))] = M3 at i3 ⊢
    simp [i3, sizeLine_eq, z3, l1, l2, hB, bs3, mk4, Nat.add_assoc]
end L2.HW
/-! TM: the law k30. -/
namespace L2.HW
open PySem PySem.Spec PyProof.Rows
theorem log_le {i : Int} (h0 : -1000 ≤ i) (h1 : i ≤ 1000) : i.natAbs.log2 < 1920 := by
  have : i.natAbs < 2 ^ 1920 := by
    have : i.natAbs ≤ 1000 := by omega
    exact Nat.lt_of_le_of_lt this (by decide +kernel)
  by_cases z : i.natAbs = 0
  · rw [z]; decide
  · exact (Nat.log2_lt z).mpr this
def PD (x : PyData) : Prop := ∃ u v : Int, x = .tuple [.int u, .int v] ∧ -1000 ≤ u ∧ u ≤ 1000 ∧ -1000 ≤ v ∧ v ≤ 1000
theorem ok_shape {m b e : Int} {qs : List PyData} (hm : -1000 ≤ m ∧ m ≤ 1000) (hb : -1000 ≤ b ∧ b ≤ 1000) (he : -1000 ≤ e ∧ e ≤ 1000) (hq : ∀ q ∈ qs, PD q) (hl : qs.length ≤ 25) : Ok 3 100 (.tuple [.int m, .int b, .int e, .tuple qs]) := by
  have f : fineAll qs = true := fineAll_iff.mpr fun q h => by
    obtain ⟨u, v, rfl, h1, h2, h3, h4⟩ := hq q h
    simp [fine, fineAll, log_le h1 h2, log_le h3 h4]
  have d : PyData.depthAll qs ≤ 1 := depthAll_le.mpr fun q h => by
    obtain ⟨u, v, rfl, _⟩ := hq q h
    simp [PyData.depth, PyData.depthAll]
  have bk : ∀ qs : List PyData, (∀ q ∈ qs, PD q) → PyData.bulkAll qs ≤ 3 * qs.length := by
    intro qs
    induction qs with
    | nil => intro _; simp [PyData.bulkAll]
    | cons q r ih =>
      intro h
      have := ih fun x hx => h x (List.mem_cons_of_mem _ hx)
      obtain ⟨u, v, rfl, _⟩ := h q List.mem_cons_self
      simp [PyData.bulkAll, PyData.bulk]
      omega
  have b1 := bk qs hq
  exact ⟨by simp [fine, fineAll, log_le hm.1 hm.2, log_le hb.1 hb.2, log_le he.1 he.2, f], by simp [PyData.depth, PyData.depthAll]; omega, by simp [PyData.bulk, PyData.bulkAll]; omega⟩
theorem Ok.fewS {d b : Nat} {x : PyData} (h : Ok d b x) (hb : b ≤ 8000) : fewS x := by
  unfold L2.HW.fewS
  split
  · rename_i a b' c rs
    have h2 := h.2.2
    have := len_bulk rs
    simp [PyData.bulk, PyData.bulkAll] at h2
    rw [sizeLine_eq]
    omega
  · trivial
theorem good3 {x : PyData} {d b : Nat} (h : Ok d b x) (hd : d ≤ 50) (hb : b ≤ 8000) (L : LH) : F_l_good_v3 [.d x] L = .ok (.d (.bool true)) L := by
  have hs := okShow_of h.1 (by have := h.2.1; omega) (by have := h.2.2; omega)
  have e1 := F_is_shape_eq x (h.fewS hb) L
  have e2 := F_l_is_shape_eq x (h.fewS hb) L
  simp [F_l_good_v3, b_l_good_v3, mkFn, hs, e1, e2, shaped_bool, Va.kind, isKind, PyData.eqv]
theorem rev_PD {x : PyData} (h : PD x) : ∃ y, PD y ∧ ∀ (f : EF) (env : En) (L : LH), f env L = .ok (.d x) L → eRev f env L = .ok (.d y) L := by
  obtain ⟨u, v, rfl, h1, h2, h3, h4⟩ := h
  exact ⟨.tuple [.int v, .int u], ⟨v, u, rfl, h3, h4, h1, h2⟩, fun f env L e => by simp [e]⟩
/-- a shape's turn -/
theorem k30_shape (L : LH) (n : Nat) (q : Int) (hn : n < L.length) {top cnt m b e : Int} {ps : List Pr} (h : GoodS top cnt m b e ps) (ht : top ≤ 1000) (hc : cnt ≤ 20) (s k : Va) (a4 a5 a6 a7 a8 a9 a10 a11 a12 a13 a14 a15 : Option Va) :
    ∃ b4 b5 b10 b11 b12 q', b_law_k30_3 [some s, some k, some (.loc n), some (.d (encS m b e ps)), a4, a5, a6, a7, a8, a9, a10, a11, a12, a13, a14, a15] (L.set n (P1 q)) =
      .nx [some s, some k, some (.loc n), some (.d (encS m b e ps)), b4, b5, some (.d (.int m)), some (.d (.int b)), some (.d (.int e)), some (.d (.tuple (ps.map dP))), b10, b11, b12, a13, a14, a15] (L.set n (P1 q')) := by
  have hm2 := h.m2
  have hmt := h.mt
  have hlen := h.len
  have hpd : ∀ x ∈ ps.map dP, PD x := fun x hx => by
    obtain ⟨p, hp, rfl⟩ := List.mem_map.mp hx
    have := h.rd p hp
    exact ⟨p.1, p.2, rfl, by omega, by omega, by omega, by omega⟩
  have hb : -1000 ≤ b ∧ b ≤ 1000 := by have := h.b0; have := h.b1; omega
  have he : -1000 ≤ e ∧ e ≤ 1000 := by have := h.e0; have := h.e1; omega
  have ok : ∀ qs : List PyData, (∀ x ∈ qs, PD x) → qs.length ≤ 25 → Ok 3 100 (.tuple [.int m, .int b, .int e, .tuple qs]) := fun qs h1 h2 => ok_shape (by omega) hb he h1 h2
  have okx : Ok 3 100 (encS m b e ps) := ok _ hpd (by simp; omega)
  have eis := F_is_shape_eq (encS m b e ps) (okx.fewS (by omega)) (L.set n (P1 q))
  rw [h.shapeB] at eis
  -- the bent ones
  obtain ⟨e1, M1, l1, q1, b4, b10, rfl, rfl⟩ := forL_inv (g := tN 4) (body := b_law_k30_1) (I := fun _ env M => ∃ q' b4 b10, env = [some s, some k, some (.loc n), some (.d (encS m b e ps)), b4, a5, some (.d (.int m)), some (.d (.int b)), some (.d (.int e)), some (.d (.tuple (ps.map dP))), b10, a11, a12, a13, a14, a15] ∧ M = L.set n (P1 q')) (rngV 0 5)
    [some s, some k, some (.loc n), some (.d (encS m b e ps)), a4, a5, some (.d (.int m)), some (.d (.int b)), some (.d (.int e)), some (.d (.tuple (ps.map dP))), a10, a11, a12, a13, a14, a15] (L.set n (P1 q)) ⟨q, a4, a10, rfl, rfl⟩ (by
    rintro w r env M ⟨q', b4, b10, rfl, rfl⟩
    obtain ⟨y, p', ey, oky⟩ := bents_ex 4 70 (encS m b e ps) 3 100 L n q' (by omega) hn (by omega) (by omega) okx
    have ey : F_l_bent_v2 70 [.loc n, .d (encS m b e ps), .d (.int 4)] (L.set n (P1 q')) = .ok (.d y) (L.set n (P1 p')) := ey
    have eg := good3 oky (by omega) (by omega) (L.set n (P1 p'))
    refine ⟨_, _, rfl, _, _, .inl ?_, p', some w, some (.d y), rfl, rfl⟩
    simp only [encS] at ey
    simp [-List.map_map, b_law_k30_1, ey, eg])
  -- turned about
  have l2 : ∀ (k0 j : Nat) (b5 b11 b12 : Option Va), j + k0 = ps.length → ∃ b5' b11' b12', forL (tN 5) b_law_k30_2 ((List.range' j k0).map fun i => Va.d (.int (0 + (i : Nat)))) [some s, some k, some (.loc n), some (.d (encS m b e ps)), b4, b5, some (.d (.int m)), some (.d (.int b)), some (.d (.int e)), some (.d (.tuple (ps.map dP))), b10, b11, b12, a13, a14, a15] (L.set n (P1 q1)) =
      .nx [some s, some k, some (.loc n), some (.d (encS m b e ps)), b4, b5', some (.d (.int m)), some (.d (.int b)), some (.d (.int e)), some (.d (.tuple (ps.map dP))), b10, b11', b12', a13, a14, a15] (L.set n (P1 q1)) := by
    intro k0
    induction k0 with
    | zero => intro j b5 b11 b12 _; exact ⟨b5, b11, b12, rfl⟩
    | succ k0 ih =>
      intro j b5 b11 b12 hj
      have hjl : j < ps.length := by omega
      have hjm : j < (ps.map dP).length := by simpa using hjl
      obtain ⟨y, py, ry⟩ := rev_PD (hpd _ (List.getElem_mem hjm))
      obtain ⟨b5', b11', b12', e'⟩ := ih (j + 1) (some (.d (.int (0 + (j : Nat))))) (some (.d (.tuple ((ps.map dP).take j ++ [y] ++ (ps.map dP).drop (j + 1))))) (some (.d (.tuple (ps.map dP ++ [y])))) (by omega)
      refine ⟨b5', b11', b12', ?_⟩
      rw [List.range'_succ, List.map_cons]
      unfold forL
      have at_ : atI ((ps.map dP).map Va.d) (j : Int) = some (.d (ps.map dP)[j]) := by
        simp [atI, ixN, hjl, List.getElem?_eq_getElem hjl]
      generalize hQ : ps.map dP = Q at *
      have hE : encS m b e ps = PyData.tuple [.int m, .int b, .int e, .tuple Q] := by rw [← hQ]
      have lo := cut_lo Q (j : Int) (by omega) (by omega)
      have hi := cut_hi Q ((j : Int) + 1) (by omega) (by omega)
      rw [show ((j : Int) + 1).toNat = j + 1 by omega] at hi
      rw [Int.toNat_natCast] at lo
      have hQl : Q.length = ps.length := by rw [← hQ]; simp
      have z1 : min j Q.length + 1 + (Q.length - (j + 1)) ≤ 16777216 := by omega
      have z2 : min j Q.length + 1 ≤ 16777216 := by omega
      have z3 : Q.length + 1 ≤ 16777216 := by omega
      have o1 : Ok 3 100 (.tuple [.int m, .int b, .int e, .tuple (Q.take j ++ [y] ++ Q.drop (j + 1))]) := ok _ (fun x hx => by
        simp only [List.mem_append, List.mem_singleton] at hx
        rcases hx with (hx | rfl) | hx
        · exact hpd x (List.mem_of_mem_take hx)
        · exact py
        · exact hpd x (List.mem_of_mem_drop hx)) (by simp; omega)
      have o2 : Ok 3 100 (.tuple [.int m, .int b, .int e, .tuple (Q ++ [y])]) := ok _ (fun x hx => by
        simp only [List.mem_append, List.mem_singleton] at hx
        rcases hx with hx | rfl
        · exact hpd x hx
        · exact py) (by simp; omega)
      have g1 := good3 o1 (by omega) (by omega) (L.set n (P1 q1))
      have g2 := good3 o2 (by omega) (by omega) (L.set n (P1 q1))
      have body : b_law_k30_2 [some s, some k, some (.loc n), some (.d (.tuple [.int m, .int b, .int e, .tuple Q])), b4, some (.d (.int (0 + (j : Nat)))), some (.d (.int m)), some (.d (.int b)), some (.d (.int e)), some (.d (.tuple Q)), b10, b11, b12, a13, a14, a15] (L.set n (P1 q1)) =
          .nx [some s, some k, some (.loc n), some (.d (.tuple [.int m, .int b, .int e, .tuple Q])), b4, some (.d (.int (0 + (j : Nat)))), some (.d (.int m)), some (.d (.int b)), some (.d (.int e)), some (.d (.tuple Q)), b10, some (.d (.tuple (Q.take j ++ [y] ++ Q.drop (j + 1)))), some (.d (.tuple (Q ++ [y]))), a13, a14, a15] (L.set n (P1 q1)) := by
        have rv : ∀ a11 a12 : Option Va, eRev (eOp opIx (eVar 9) (eVar 5)) [some s, some k, some (.loc n), some (.d (.tuple [.int m, .int b, .int e, .tuple Q])), b4, some (.d (.int (0 + (j : Nat)))), some (.d (.int m)), some (.d (.int b)), some (.d (.int e)), some (.d (.tuple Q)), b10, a11, a12, a13, a14, a15] (L.set n (P1 q1)) = .ok (.d y) (L.set n (P1 q1)) := fun a11 a12 => ry _ _ _ (by simp [at_])
        have rv' := rv
        simp only [Int.zero_add] at rv ⊢
        refine seq_nx (env1 := [some s, some k, some (.loc n), some (.d (.tuple [.int m, .int b, .int e, .tuple Q])), b4, some (.d (.int (j : Nat))), some (.d (.int m)), some (.d (.int b)), some (.d (.int e)), some (.d (.tuple Q)), b10, some (.d (.tuple (Q.take j ++ [y] ++ Q.drop (j + 1)))), b12, a13, a14, a15]) (L1 := L.set n (P1 q1)) (by simp [-u_eRev, rv, lo, hi, z1, z2, sizeLine_eq]) ?_
        refine seq_nx (env1 := [some s, some k, some (.loc n), some (.d (.tuple [.int m, .int b, .int e, .tuple Q])), b4, some (.d (.int (j : Nat))), some (.d (.int m)), some (.d (.int b)), some (.d (.int e)), some (.d (.tuple Q)), b10, some (.d (.tuple (Q.take j ++ [y] ++ Q.drop (j + 1)))), some (.d (.tuple (Q ++ [y]))), a13, a14, a15]) (L1 := L.set n (P1 q1)) (by simp [-u_eRev, rv, z3, sizeLine_eq]) ?_
        simp only [List.append_assoc, List.cons_append, List.nil_append] at g1
        simp [g1, g2, sizeLine_eq]
      simp only [u_tN, List.set_cons_succ, List.set_cons_zero]
      rw [hE] at e' ⊢
      rw [body]
      exact e'
  obtain ⟨b5, b11, b12, e2⟩ := l2 ps.length 0 a5 a11 a12 (by omega)
  have hr : rngV 0 ps.length = (List.range' 0 ps.length).map fun i => Va.d (.int (0 + (i : Nat))) := by simp [rngV, List.range_eq_range']
  rw [← hr] at e2
  refine ⟨b4, b5, b10, b11, b12, q1, ?_⟩
  refine seq_nx (env1 := [some s, some k, some (.loc n), some (.d (encS m b e ps)), a4, a5, some (.d (.int m)), some (.d (.int b)), some (.d (.int e)), some (.d (.tuple (ps.map dP))), a10, a11, a12, a13, a14, a15]) (L1 := L.set n (P1 q)) (by simp) ?_
  refine seq_nx (env1 := [some s, some k, some (.loc n), some (.d (encS m b e ps)), a4, a5, some (.d (.int m)), some (.d (.int b)), some (.d (.int e)), some (.d (.tuple (ps.map dP))), a10, a11, a12, a13, a14, a15]) (L1 := L.set n (P1 q)) (by simp only [u_sIf, u_tVal, u_eOp, u_eCall, u_aCons, u_aNil, u_eVar, List.getElem?_cons_succ, List.getElem?_cons_zero, Res.bind_ok, eis]; simp) ?_
  refine seq_nx (for_nx (ws := rngV 0 5) (by simp) l1) ?_
  exact for_nx (srcR1_nat (n := ps.length) (by simp) (by rw [sizeLine_eq]; omega)) e2

theorem k30_outer (ns : List Int) (hl : ns.length ≤ 63) (N : Nat) (hN : N ≤ 8) : ∃ env' L', forL (tN 1) b_law_k30_4 (rngV 0 N) ([some (.scr ns)] ++ List.replicate 15 none) [] = .nx env' L' ∧
    ∃ g : List (Option Va), g.length = 12 ∧ env' = some (.scr ns) :: (g ++ [none, none, none]) := by
  have loop := forL_inv (g := tN 1) (body := b_law_k30_4) (I := fun ws env M => (∃ a1 a2 a3 a4 a5 a6 a7 a8 a9 a10 a11 a12, env = [some (.scr ns), a1, a2, a3, a4, a5, a6, a7, a8, a9, a10, a11, a12, none, none, none]) ∧ ∀ w ∈ ws, ∃ j : Nat, w = Va.d (.int j) ∧ j < 8) (rngV 0 N) ([some (.scr ns)] ++ List.replicate 15 none) []
    ⟨⟨_, _, _, _, _, _, _, _, _, _, _, _, rfl⟩, fun w hw => by
      simp only [rngV, List.mem_map, List.mem_range] at hw
      obtain ⟨j, hj, rfl⟩ := hw
      exact ⟨j, by simp, by omega⟩⟩ ?_
  · obtain ⟨env', L', e, ⟨a1, a2, a3, a4, a5, a6, a7, a8, a9, a10, a11, a12, rfl⟩, _⟩ := loop
    exact ⟨_, L', e, [a1, a2, a3, a4, a5, a6, a7, a8, a9, a10, a11, a12], rfl, rfl⟩
  · rintro w r env M ⟨⟨a1, a2, a3, a4, a5, a6, a7, a8, a9, a10, a11, a12, rfl⟩, hw⟩
    obtain ⟨j, rfl, hj⟩ := hw w List.mem_cons_self
    obtain ⟨p, ep⟩ := pile_ex (ns := ns) (k := j) (L := M) (by omega) (by omega) hl
    have hs : M ++ [P1 p] = (M ++ [P1 0]).set M.length (P1 p) := by rw [List.set_append_right _ _ (Nat.le_refl _)]; simp
    obtain ⟨L, hL⟩ : ∃ L, L = M ++ [P1 0] := ⟨_, rfl⟩
    have hn : M.length < L.length := by rw [hL]; simp
    rw [← hL] at hs
    generalize hnn : M.length = n at hs hn
    obtain ⟨m, b, e, ps, p1, e1, g1⟩ := shape_ex (L := L) (n := n) (p := p) (top := 6) (bound := 9) hn (by omega) (by omega) (by omega) (by omega)
    obtain ⟨m2, ps2, p2, e2, g2, l2⟩ := grown_ex (L := L) (n := n) (p := p1) (c := 4) hn (by omega)
    obtain ⟨b', e', qs, p3, e3, g3⟩ := numbered_ex (L := L) (n := n) (p := p2) (g2.good (cnt := 5) (by omega)) (by omega) (by omega) hn
    obtain ⟨b4, b5, b10, b11, b12, q1, t1⟩ := k30_shape L n p3 hn g1 (by omega) (by omega) (.scr ns) (.d (.int j)) a4 a5 a6 a7 a8 a9 a10 a11 a12 none none none
    obtain ⟨c4, c5, c10, c11, c12, q2, t2⟩ := k30_shape L n q1 hn g3 (by omega) (by omega) (.scr ns) (.d (.int j)) b4 b5 (some (.d (.int m))) (some (.d (.int b))) (some (.d (.int e))) (some (.d (.tuple (ps.map dP)))) b10 b11 b12 none none none
    refine ⟨_, _, rfl, [some (.scr ns), some (.d (.int j)), some (.loc n), some (.d (encS m2 b' e' qs)), c4, c5, some (.d (.int m2)), some (.d (.int b')), some (.d (.int e')), some (.d (.tuple (qs.map dP))), c10, c11, c12, none, none, none], L.set n (P1 q2), .inl ?_, ⟨_, _, _, _, _, _, _, _, _, _, _, _, rfl⟩, fun w hw' => hw w (List.mem_cons_of_mem _ hw')⟩
    refine seq_nx (env1 := [some (.scr ns), some (.d (.int j)), some (.loc n), a3, a4, a5, a6, a7, a8, a9, a10, a11, a12, none, none, none]) (L1 := L.set n (P1 p)) (by
      simp only [u_sSet, u_eNew, u_fCall, u_aCons, u_aNil, u_eVar, List.getElem?_cons_succ, List.getElem?_cons_zero, Res.bind_ok, u_tN, List.set_cons_succ, List.set_cons_zero, ep, then_ok, hnn, ← hs]) ?_
    have hsrc : srcV (eDat (fLst (aCons (eCall F_l_shape (aCons (eVar 2) (aCons (eC (.int 6)) (aCons (eC (.int 9)) aNil)))) (aCons (eCall F_l_numbered (aCons (eVar 2) (aCons (eCall F_l_grown (aCons (eVar 2) (aCons (eC (.int 4)) aNil))) aNil))) aNil)))) [some (.scr ns), some (.d (.int j)), some (.loc n), a3, a4, a5, a6, a7, a8, a9, a10, a11, a12, none, none, none] (L.set n (P1 p)) = .ok ([.d (encS m b e ps), .d (encS m2 b' e' qs)], none) (L.set n (P1 p3)) := by
      have e2' : F_l_grown [.loc n, .d (.int 4)] (L.set n (P1 p1)) = .ok (.d (encS m2 0 1 ps2)) (L.set n (P1 p2)) := e2
      simp only [u_srcV, u_eDat, u_fLst, u_aCons, u_aNil, u_eCall, u_eC, u_eVar, List.getElem?_cons_succ, List.getElem?_cons_zero, Res.bind_ok, e1, e2', e3]
      simp [sizeLine_eq, srcOf]
    simp only [sFor, hsrc, then_ok, lockL_none]
    unfold forL
    simp only [u_tN, List.set_cons_succ, List.set_cons_zero, t1]
    unfold forL
    simp only [u_tN, List.set_cons_succ, List.set_cons_zero, t2]
    unfold forL
    simp only [openOut_nx, openL_none]
theorem eqv_true3 : PyData.eqv (.list [.bool true, .bool true, .bool true]) (.list [.bool true, .bool true, .bool true]) = true := by decide
def great30 : List PyData := [encS (10 ^ 29) 0 1 [], encS (10 ^ 29) 0 1 [(0, 1)], encS (10 ^ 29) 5 (10 ^ 29 - 1) [(5, 10 ^ 29 - 2), (10 ^ 29 - 2, 10 ^ 29 - 1)]]
theorem great_ok : ∀ x ∈ great30, shapeB x = true := by decide +kernel
theorem great_few : ∀ x ∈ great30, fewS x := by
  intro x hx
  simp only [great30, List.mem_cons, List.not_mem_nil, or_false] at hx
  rcases hx with rfl | rfl | rfl <;> simp [fewS, sizeLine_eq]
theorem law_k30 : ∀ ns : List Int, ns.length ≤ 63 → ∃ L, F_law_k30 [.scr ns] [] = .ok (.d (.bool true)) L := by
  intro ns hl
  obtain ⟨env', L', e, g, hg, rfl⟩ := k30_outer ns hl (max 2 (min ns.length 8)) (by omega)
  obtain ⟨a1, a2, a3, a4, a5, a6, a7, a8, a9, a10, a11, a12, rfl⟩ : ∃ a1 a2 a3 a4 a5 a6 a7 a8 a9 a10 a11 a12, g = [a1, a2, a3, a4, a5, a6, a7, a8, a9, a10, a11, a12] := by
    match g, hg with
    | [a1, a2, a3, a4, a5, a6, a7, a8, a9, a10, a11, a12], _ => exact ⟨_, _, _, _, _, _, _, _, _, _, _, _, rfl⟩
  simp only [List.cons_append, List.nil_append] at e
  have en : (max 2 (min (ns.length : Int) 8)).toNat = max 2 (min ns.length 8) := by omega
  have rg : -4611686018427387904 ≤ max 2 (min (ns.length : Int) 8) ∧ max 2 (min (ns.length : Int) 8) < 4611686018427387904 := by omega
  have src : srcR1 (aCons (eCallB cMax2 (aCons (eC (.int 2)) (aCons (eCallB cMin2 (aCons (eCallB cLen (aCons (eVar 0) aNil)) (aCons (eC (.int 8)) aNil))) aNil))) aNil) (some (.scr ns) :: List.replicate 15 none) [] = .ok (rngV 0 (max 2 (min ns.length 8)), none) [] := by
    rw [← en]
    exact srcR1_int (by simp [-u_cMin2, -u_cMax2, cMin2_eq, cMax2_eq]) rg
  have gr : fComp (srcV (eVar 14)) (tN 15) tTrue (eCall F_is_shape (aCons (eVar 15) aNil)) [15] [some (.scr ns), a1, a2, a3, a4, a5, a6, a7, a8, a9, a10, a11, a12, some (.d (.int (10 ^ 29))), some (.d (.list great30)), none] L' = .ok (.lst [.d (.bool true), .d (.bool true), .d (.bool true)]) L' := by
    rw [fComp_map (xs := great30) (h := fun _ => .bool true) (by simp [srcOf]) (by simp [great30, sizeLine_eq]) (fun x hx => ⟨_, rfl, by
      have := F_is_shape_eq x (great_few x hx) L'
      rw [great_ok x hx] at this
      simp [wipeE, this]⟩)]
    rfl
  have bad0 : F_is_shape [.d (encS (10 ^ 29) 0 (10 ^ 29) [])] L' = .ok (.d (.bool false)) L' := by
    rw [F_is_shape_eq _ (by simp [fewS, sizeLine_eq])]
    rfl
  simp [encS] at bad0
  have ebad : fComp (srcV (eCall F_l_bad_shapes aNil)) (tN 15) (tVal (eOp opNotB (eCall F_is_shape (aCons (eVar 15) aNil)) (eC (.bool false)))) (eVar 15) [15] [some (.scr ns), a1, a2, a3, a4, a5, a6, a7, a8, a9, a10, a11, a12, some (.d (.int (10 ^ 29))), some (.d (.list great30)), none] L' = .ok (.lst []) L' := by
    rw [fComp_filter (xs := badShapes) (fun _ => false) (by simp [bad_shapes_ex, srcOf]) (by rw [sizeLine_eq]; decide) (fun x hx => ⟨_, rfl, by
        have h := badS_all x hx
        have hf : fewS x := Ok.fewS (d := 6) (b := 100) ⟨h.1, h.2.1, h.2.2.1⟩ (by omega)
        have := F_is_shape_eq x hf L'
        rw [h.2.2.2] at this
        simp [wipeE, this], by simp [wipeE]⟩)]
    simp
  have c0 : cmpOk (.list []) (.list []) = true := by decide
  have c1 : cmpOk (.list [.bool true, .bool true, .bool true]) (.list [.bool true, .bool true, .bool true]) = true := by decide
  have q1 : powC 10 29 = true := by decide
  have r3 : rep 3 [PyData.bool true] = [.bool true, .bool true, .bool true] := rfl
  refine ⟨[], fn_out (L' := L') (w := .d (.bool true)) rfl ?_ (settle_d _ _ _ _) (outV_nil _ _)⟩
  refine seq_nx (for_nx src e) ?_
  refine seq_nx (env1 := [some (.scr ns), a1, a2, a3, a4, a5, a6, a7, a8, a9, a10, a11, a12, some (.d (.int (10 ^ 29))), none, none]) (L1 := L') (by simp [q1]) ?_
  refine seq_nx (env1 := [some (.scr ns), a1, a2, a3, a4, a5, a6, a7, a8, a9, a10, a11, a12, some (.d (.int (10 ^ 29))), some (.d (.list great30)), none]) (L1 := L') (by simp [sizeLine_eq, great30]) ?_
  refine seq_nx (env1 := [some (.scr ns), a1, a2, a3, a4, a5, a6, a7, a8, a9, a10, a11, a12, some (.d (.int (10 ^ 29))), some (.d (.list great30)), none]) (L1 := L') (by
    simp only [u_sIf, u_tOrF, u_tVal, u_eOp, u_eDat, gr, Res.bind_ok]
    simp [sizeLine_eq, c1, r3, eqv_true3, bad0]) ?_
  simp only [u_sRet, u_eOp, u_eDat, ebad, Res.bind_ok]
  simp [c0, eqv_nil_list]
end L2.HW
set_option maxHeartbeats 0
namespace L2.HW.R_k30
open PySem PySem.Spec PyProof.Rows L2.HW
abbrev top (i : Nat) : Stmt := PySem.Challenge.pw_hastyways_k30_what_is_a_shape.main.body.getD i (.Pass ⟨0, 0, 0, 0⟩)
variable {P : Program} {w : World} {K : PySem.W.Frag} {mg : Str → Option Value} {base : Heap}
abbrev N__law_mixed : List Str := ["_law_cell", "_law_k", "_law_number"]
abbrev p__law_mixed : List Str := ["_law_cell", "_law_k"]
theorem sc__law_mixed : FnScope N__law_mixed p__law_mixed (defScope (top 11)) := ⟨rfl, rfl, rfl, by decide +kernel, rfl, by decide +kernel, by decide +kernel⟩
theorem bi__law_mixed : BindE "_law_mixed" (top 11) p__law_mixed := fun _ _ _ _ _ _ us hl => match us, hl with | [_, _], _ => rfl
abbrev N__law_pile : List Str := ["_law_script", "_law_k", "_law_cell", "_law_found", "_law_j"]
abbrev p__law_pile : List Str := ["_law_script", "_law_k"]
theorem sc__law_pile : FnScope N__law_pile p__law_pile (defScope (top 12)) := ⟨rfl, rfl, rfl, by decide +kernel, rfl, by decide +kernel, by decide +kernel⟩
theorem bi__law_pile : BindE "_law_pile" (top 12) p__law_pile := fun _ _ _ _ _ _ us hl => match us, hl with | [_, _], _ => rfl
abbrev N__law_take : List Str := ["_law_pile_here", "_law_size", "_law_digit"]
abbrev p__law_take : List Str := ["_law_pile_here", "_law_size"]
theorem sc__law_take : FnScope N__law_take p__law_take (defScope (top 13)) := ⟨rfl, rfl, rfl, by decide +kernel, rfl, by decide +kernel, by decide +kernel⟩
theorem bi__law_take : BindE "_law_take" (top 13) p__law_take := fun _ _ _ _ _ _ us hl => match us, hl with | [_, _], _ => rfl
abbrev N__law_order_of : List Str := ["_law_pile_here", "_law_many", "_law_order", "_law_k"]
abbrev p__law_order_of : List Str := ["_law_pile_here", "_law_many"]
theorem sc__law_order_of : FnScope N__law_order_of p__law_order_of (defScope (top 14)) := ⟨rfl, rfl, rfl, by decide +kernel, rfl, by decide +kernel, by decide +kernel⟩
theorem bi__law_order_of : BindE "_law_order_of" (top 14) p__law_order_of := fun _ _ _ _ _ _ us hl => match us, hl with | [_, _], _ => rfl
abbrev N__law_numbered : List Str := ["_law_pile_here", "_law_shape_here", "_law_many", "_law_begin", "_law_end", "_law_pairs", "_law_order", "_law_rows", "_law_u", "_law_v", "_law_r"]
abbrev p__law_numbered : List Str := ["_law_pile_here", "_law_shape_here"]
theorem sc__law_numbered : FnScope N__law_numbered p__law_numbered (defScope (top 20)) := ⟨rfl, rfl, rfl, by decide +kernel, rfl, by decide +kernel, by decide +kernel⟩
theorem bi__law_numbered : BindE "_law_numbered" (top 20) p__law_numbered := fun _ _ _ _ _ _ us hl => match us, hl with | [_, _], _ => rfl
abbrev N__law_grown : List Str := ["_law_pile_here", "_law_size", "_law_edges", "_law_many", "_law_turn", "_law_at", "_law_u", "_law_v"]
abbrev p__law_grown : List Str := ["_law_pile_here", "_law_size"]
theorem sc__law_grown : FnScope N__law_grown p__law_grown (defScope (top 19)) := ⟨rfl, rfl, rfl, by decide +kernel, rfl, by decide +kernel, by decide +kernel⟩
theorem bi__law_grown : BindE "_law_grown" (top 19) p__law_grown := fun _ _ _ _ _ _ us hl => match us, hl with | [_, _], _ => rfl
abbrev N__law_shape : List Str := ["_law_pile_here", "_law_top", "_law_bound", "_law_many", "_law_order", "_law_pairs", "_law_r", "_law_i", "_law_j", "_law_begin"]
abbrev p__law_shape : List Str := ["_law_pile_here", "_law_top", "_law_bound"]
theorem sc__law_shape : FnScope N__law_shape p__law_shape (defScope (top 18)) := ⟨rfl, rfl, rfl, by decide +kernel, rfl, by decide +kernel, by decide +kernel⟩
theorem bi__law_shape : BindE "_law_shape" (top 18) p__law_shape := fun _ _ _ _ _ _ us hl => match us, hl with | [_, _, _], _ => rfl
abbrev N_is_whole : List Str := ["thing"]
abbrev p_is_whole : List Str := ["thing"]
theorem sc_is_whole : FnScope N_is_whole p_is_whole (defScope (top 1)) := ⟨rfl, rfl, rfl, by decide +kernel, rfl, by decide +kernel, by decide +kernel⟩
theorem bi_is_whole : BindE "is_whole" (top 1) p_is_whole := fun _ _ _ _ _ _ us hl => match us, hl with | [_], _ => rfl
abbrev N_is_place : List Str := ["many", "thing"]
abbrev p_is_place : List Str := ["many", "thing"]
theorem sc_is_place : FnScope N_is_place p_is_place (defScope (top 2)) := ⟨rfl, rfl, rfl, by decide +kernel, rfl, by decide +kernel, by decide +kernel⟩
theorem bi_is_place : BindE "is_place" (top 2) p_is_place := fun _ _ _ _ _ _ us hl => match us, hl with | [_, _], _ => rfl
abbrev N_is_pair : List Str := ["many", "end", "thing", "place"]
abbrev p_is_pair : List Str := ["many", "end", "thing"]
theorem sc_is_pair : FnScope N_is_pair p_is_pair (defScope (top 4)) := ⟨rfl, rfl, rfl, by decide +kernel, rfl, by decide +kernel, by decide +kernel⟩
theorem bi_is_pair : BindE "is_pair" (top 4) p_is_pair := fun _ _ _ _ _ _ us hl => match us, hl with | [_, _, _], _ => rfl
abbrev N_reached : List Str := ["pairs", "places", "found", "size", "u", "v", "place"]
abbrev p_reached : List Str := ["pairs", "places"]
theorem sc_reached : FnScope N_reached p_reached (defScope (top 5)) := ⟨rfl, rfl, rfl, by decide +kernel, rfl, by decide +kernel, by decide +kernel⟩
theorem bi_reached : BindE "reached" (top 5) p_reached := fun _ _ _ _ _ _ us hl => match us, hl with | [_, _], _ => rfl
abbrev N_has_round : List Str := ["pairs", "u", "v"]
abbrev p_has_round : List Str := ["pairs"]
theorem sc_has_round : FnScope N_has_round p_has_round (defScope (top 6)) := ⟨rfl, rfl, rfl, by decide +kernel, rfl, by decide +kernel, by decide +kernel⟩
theorem bi_has_round : BindE "has_round" (top 6) p_has_round := fun _ _ _ _ _ _ us hl => match us, hl with | [_], _ => rfl
abbrev N_is_right_shape : List Str := ["thing", "many", "begin", "end", "pairs", "pair"]
abbrev p_is_right_shape : List Str := ["thing"]
theorem sc_is_right_shape : FnScope N_is_right_shape p_is_right_shape (defScope (top 7)) := ⟨rfl, rfl, rfl, by decide +kernel, rfl, by decide +kernel, by decide +kernel⟩
theorem bi_is_right_shape : BindE "is_right_shape" (top 7) p_is_right_shape := fun _ _ _ _ _ _ us hl => match us, hl with | [_], _ => rfl
abbrev N_is_shape : List Str := ["thing"]
abbrev p_is_shape : List Str := ["thing"]
theorem sc_is_shape : FnScope N_is_shape p_is_shape (defScope (top 8)) := ⟨rfl, rfl, rfl, by decide +kernel, rfl, by decide +kernel, by decide +kernel⟩
theorem bi_is_shape : BindE "is_shape" (top 8) p_is_shape := fun _ _ _ _ _ _ us hl => match us, hl with | [_], _ => rfl
abbrev N__law_bent : List Str := ["_law_pile_here", "_law_thing", "_law_deep", "_law_odd", "_law_at", "_law_way"]
abbrev p__law_bent : List Str := ["_law_pile_here", "_law_thing", "_law_deep"]
theorem sc__law_bent : FnScope N__law_bent p__law_bent (defScope (top 23)) := ⟨rfl, rfl, rfl, by decide +kernel, rfl, by decide +kernel, by decide +kernel⟩
theorem bi__law_bent : BindE "_law_bent" (top 23) p__law_bent := fun _ _ _ _ _ _ us hl => match us, hl with | [_, _, _], _ => rfl
abbrev N__law_whole : List Str := ["_law_thing"]
abbrev p__law_whole : List Str := ["_law_thing"]
theorem sc__law_whole : FnScope N__law_whole p__law_whole (defScope (top 15)) := ⟨rfl, rfl, rfl, by decide +kernel, rfl, by decide +kernel, by decide +kernel⟩
theorem bi__law_whole : BindE "_law_whole" (top 15) p__law_whole := fun _ _ _ _ _ _ us hl => match us, hl with | [_], _ => rfl
abbrev N__law_is_from : List Str := ["_law_thing", "_law_low"]
abbrev p__law_is_from : List Str := ["_law_thing", "_law_low"]
theorem sc__law_is_from : FnScope N__law_is_from p__law_is_from (defScope (top 16)) := ⟨rfl, rfl, rfl, by decide +kernel, rfl, by decide +kernel, by decide +kernel⟩
theorem bi__law_is_from : BindE "_law_is_from" (top 16) p__law_is_from := fun _ _ _ _ _ _ us hl => match us, hl with | [_, _], _ => rfl
abbrev N__law_is_place : List Str := ["_law_many", "_law_thing"]
abbrev p__law_is_place : List Str := ["_law_many", "_law_thing"]
theorem sc__law_is_place : FnScope N__law_is_place p__law_is_place (defScope (top 17)) := ⟨rfl, rfl, rfl, by decide +kernel, rfl, by decide +kernel, by decide +kernel⟩
theorem bi__law_is_place : BindE "_law_is_place" (top 17) p__law_is_place := fun _ _ _ _ _ _ us hl => match us, hl with | [_, _], _ => rfl
abbrev N__law_once : List Str := ["_law_some", "_law_kept", "_law_one"]
abbrev p__law_once : List Str := ["_law_some"]
theorem sc__law_once : FnScope N__law_once p__law_once (defScope (top 10)) := ⟨rfl, rfl, rfl, by decide +kernel, rfl, by decide +kernel, by decide +kernel⟩
theorem bi__law_once : BindE "_law_once" (top 10) p__law_once := fun _ _ _ _ _ _ us hl => match us, hl with | [_], _ => rfl
abbrev N__law_is_shape : List Str := ["_law_thing", "_law_many", "_law_begin", "_law_end", "_law_pairs", "_law_pair", "_law_there", "_law_turn", "_law_place"]
abbrev p__law_is_shape : List Str := ["_law_thing"]
theorem sc__law_is_shape : FnScope N__law_is_shape p__law_is_shape (defScope (top 21)) := ⟨rfl, rfl, rfl, by decide +kernel, rfl, by decide +kernel, by decide +kernel⟩
theorem bi__law_is_shape : BindE "_law_is_shape" (top 21) p__law_is_shape := fun _ _ _ _ _ _ us hl => match us, hl with | [_], _ => rfl
abbrev N__law_good : List Str := ["_law_thing", "_law_kept", "_law_found"]
abbrev p__law_good : List Str := ["_law_thing"]
theorem sc__law_good : FnScope N__law_good p__law_good (defScope (top 24)) := ⟨rfl, rfl, rfl, by decide +kernel, rfl, by decide +kernel, by decide +kernel⟩
theorem bi__law_good : BindE "_law_good" (top 24) p__law_good := fun _ _ _ _ _ _ us hl => match us, hl with | [_], _ => rfl
abbrev N__law_bad_shapes : List Str := ["_law_found", "_law_many", "_law_odd", "_law_odds"]
abbrev p__law_bad_shapes : List Str := []
theorem sc__law_bad_shapes : FnScope N__law_bad_shapes p__law_bad_shapes (defScope (top 22)) := ⟨rfl, rfl, rfl, by decide +kernel, rfl, by decide +kernel, by decide +kernel⟩
theorem bi__law_bad_shapes : BindE "_law_bad_shapes" (top 22) p__law_bad_shapes := fun _ _ _ _ _ _ us hl => match us, hl with | [], _ => rfl
abbrev N_law : List Str := ["_law_script", "_law_k", "_law_pile_here", "_law_shape_here", "_law_turn", "_law_r", "_law_many", "_law_begin", "_law_end", "_law_pairs", "_law_bent_here", "_law_turned", "_law_more", "_law_far", "_law_great", "_law_thing"]
abbrev p_law : List Str := ["_law_script"]
theorem sc_law : FnScope N_law p_law (defScope (top 25)) := ⟨rfl, rfl, rfl, by decide +kernel, rfl, by decide +kernel, by decide +kernel⟩
theorem bi_law : BindE "law" (top 25) p_law := fun _ _ _ _ _ _ us hl => match us, hl with | [_], _ => rfl
theorem H__law_mixed (D : Def K mg "_law_mixed" (top 11)) (m_int : mg "int" = none) : Has P w K mg base "_law_mixed" p__law_mixed 1 F_l_mixed :=
  has_of (k := 0) D bi__law_mixed (N := N__law_mixed) sc__law_mixed rfl (by decide) fun f cdv A outer s H E c =>
  (sb_cons (z_set c.toCtx 2 (w_mod (w_int m_int (sa_cons (w_add (w_add (w_mul (w_mod (w_int m_int (sa_cons (w_v 0) sa_nil)) se_int) se_int) (w_mul (w_v 1) se_int)) se_int) sa_nil)) se_int))
  (sb_cons (z_set c.toCtx 2 (w_mod (w_int m_int (sa_cons (w_mul (w_v 2) (w_v 2)) sa_nil)) se_int))
  (sb_one (ss_ret (w_mod (w_int m_int (sa_cons (w_mul (w_v 2) (w_add (w_v 2) se_int)) sa_nil)) se_int)))))
theorem H__law_pile (D : Def K mg "_law_pile" (top 12)) (m_int : mg "int" = none) (m_len : mg "len" = none) (m_range : mg "range" = none) (H__law_mixed : Has P w K mg base "_law_mixed" p__law_mixed 1 F_l_mixed) : HasF P w K mg base "_law_pile" p__law_pile 2 F_l_pile :=
  hasF_of (k := 1) D bi__law_pile (N := N__law_pile) sc__law_pile rfl (by decide) fun f cdv A outer s H E c =>
  (sb_cons (z_set c.toCtx 2 se_int)
  (sb_cons (ss_if (t_lt c.toCtx (w_v 1) (w_len m_len (sa_cons (w_v 0) sa_nil))) (sb_one (z_set c.toCtx 2 (w_ix c.toCtx (w_v 0) (w_v 1)))) sb_nil)
  (sb_cons (ss_if (t_ge c.toCtx (w_v 2) (w_pow se_int se_int)) (sb_one (ss_retF (sf_lst (sa_cons (w_mod (w_int m_int (sa_cons (w_sub (w_v 2) (w_pow se_int se_int)) sa_nil)) (w_mul (w_mul (w_mul (w_pow se_int se_int) (w_pow se_int se_int)) (w_pow se_int se_int)) (w_pow se_int se_int))) sa_nil)))) sb_nil)
  (sb_cons (z_set c.toCtx 3 se_int)
  (sb_cons (z_for c (si_r1 rfl m_range (sa_cons se_int sa_nil)) (g_name c.toCtx 4) (sb_one (z_set c.toCtx 3 (w_add (w_mul (w_v 3) se_int) (w_call c.toCtx (H__law_mixed) (sa_cons (w_v 2) (sa_cons (w_add (w_add (w_mul se_int (w_v 1)) (w_mul se_int (w_v 4))) (w_mul (w_v 4) (w_v 4))) sa_nil)) )))))
  (sb_one (ss_retF (sf_lst (sa_cons (w_v 3) sa_nil)))))))))
theorem H__law_take (D : Def K mg "_law_take" (top 13)) (m_int : mg "int" = none) : Has P w K mg base "_law_take" p__law_take 1 F_l_take :=
  has_of (k := 0) D bi__law_take (N := N__law_take) sc__law_take rfl (by decide) fun f cdv A outer s H E c =>
  (sb_cons (z_set c.toCtx 2 (w_mod (w_int m_int (sa_cons (w_ix c.toCtx (w_v 0) se_int) sa_nil)) (w_v 1)))
  (sb_cons (ss_asg (w_div (w_ix c.toCtx (w_v 0) se_int) (w_v 1)) (sg_ix c.toCtx.u1 (w_v 0) se_int))
  (sb_one (ss_ret (w_v 2)))))
theorem H__law_order_of (D : Def K mg "_law_order_of" (top 14)) (m_range : mg "range" = none) (H__law_take : Has P w K mg base "_law_take" p__law_take 1 F_l_take) : Has P w K mg base "_law_order_of" p__law_order_of 2 F_l_order_of :=
  has_of (k := 1) D bi__law_order_of (N := N__law_order_of) sc__law_order_of rfl (by decide) fun f cdv A outer s H E c =>
  (sb_cons (z_set c.toCtx 2 (se_new (sf_lst sa_nil)))
  (sb_cons (z_for c (si_r1 rfl m_range (sa_cons (w_v 1) sa_nil)) (g_name c.toCtx 3) (sb_one (ss_expr (se_meth PySem.F.plainAttrs_list PySem.F.slot_list_insert PySem.F.type_list_insert mt_insert ok_insert ty_list (w_v 2) (sa_cons (w_call c.toCtx (H__law_take) (sa_cons (w_v 0) (sa_cons (w_add (w_v 3) se_int) sa_nil)) ) (sa_cons (w_v 3) sa_nil))))))
  (sb_one (ss_ret (w_v 2)))))
theorem H__law_numbered (D : Def K mg "_law_numbered" (top 20)) (m_len : mg "len" = none) (m_tuple : mg "tuple" = none) (H__law_order_of : Has P w K mg base "_law_order_of" p__law_order_of 2 F_l_order_of) : Has P w K mg base "_law_numbered" p__law_numbered 3 F_l_numbered :=
  has_of (k := 2) D bi__law_numbered (N := N__law_numbered) sc__law_numbered rfl (by decide) fun f cdv A outer s H E c =>
  (sb_cons (ss_asg (w_v 1) (sg_tup c.toCtx.cm (sgs_cons (g_name c.toCtx 2) (sgs_cons (g_name c.toCtx 3) (sgs_cons (g_name c.toCtx 4) (sgs_cons (g_name c.toCtx 5) sgs_nil))))))
  (sb_cons (z_set c.toCtx 6 (w_call c.toCtx (H__law_order_of) (sa_cons (w_v 0) (sa_cons (w_v 2) sa_nil)) ))
  (sb_cons (by first | exact ss_setComp c.toCtx.cm c.toCtx.nd (i := 7) rfl rfl rfl (own := [("_law_u", 8), ("_law_v", 9)]) (si_v (w_v 5)) (blkOk_by (by rfl)) (by decide) (fun s2 Z2 D2 l2 p2 => (sg_tup (Ctx.bk c.toCtx s2 Z2 _ _ p2).cm (sgs_cons (g_name (Ctx.bk c.toCtx s2 Z2 _ _ p2) 8) (sgs_cons (g_name (Ctx.bk c.toCtx s2 Z2 _ _ p2) 9) sgs_nil)))) (fun s2 Z2 D2 l2 p2 => sts_nil) (fun s2 Z2 D2 l2 p2 => (se_tup (sa_cons (w_ix (Ctx.bk c.toCtx s2 Z2 _ _ p2) (w_v 6) (w_v 8)) (sa_cons (w_ix (Ctx.bk c.toCtx s2 Z2 _ _ p2) (w_v 6) (w_v 9)) sa_nil)))) | exact (z_set c.toCtx 7 (se_dat (sf_comp c.toCtx.cm c.toCtx.nd (own := [("_law_u", 8), ("_law_v", 9)]) (si_v (w_v 5)) (blkOk_by (by rfl)) (by decide) (fun s1 Z1 D1 l1 p1 => (sg_tup (Ctx.bk c.toCtx s1 Z1 _ _ p1).cm (sgs_cons (g_name (Ctx.bk c.toCtx s1 Z1 _ _ p1) 8) (sgs_cons (g_name (Ctx.bk c.toCtx s1 Z1 _ _ p1) 9) sgs_nil)))) (fun s1 Z1 D1 l1 p1 => sts_nil) (fun s1 Z1 D1 l1 p1 => (se_tup (sa_cons (w_ix (Ctx.bk c.toCtx s1 Z1 _ _ p1) (w_v 6) (w_v 8)) (sa_cons (w_ix (Ctx.bk c.toCtx s1 Z1 _ _ p1) (w_v 6) (w_v 9)) sa_nil))))))))
  (sb_one (ss_ret (se_tup (sa_cons (w_v 2) (sa_cons (w_ix c.toCtx (w_v 6) (w_v 3)) (sa_cons (w_ix c.toCtx (w_v 6) (w_v 4)) (sa_cons (w_tuple m_tuple (sa_cons (se_dat (sf_comp c.toCtx.cm c.toCtx.nd (own := [("_law_r", 10)]) (si_v (w_call c.toCtx (H__law_order_of) (sa_cons (w_v 0) (sa_cons (w_len m_len (sa_cons (w_v 7) sa_nil)) sa_nil)) )) (blkOk_by (by rfl)) (by decide) (fun s3 Z3 D3 l3 p3 => (g_name (Ctx.bk c.toCtx s3 Z3 _ _ p3) 10)) (fun s3 Z3 D3 l3 p3 => sts_nil) (fun s3 Z3 D3 l3 p3 => (w_ix (Ctx.bk c.toCtx s3 Z3 _ _ p3) (w_v 7) (w_v 10))))) sa_nil)) sa_nil))))))))))
theorem H__law_grown (D : Def K mg "_law_grown" (top 19)) (m_len : mg "len" = none) (m_range : mg "range" = none) (m_tuple : mg "tuple" = none) (H__law_take : Has P w K mg base "_law_take" p__law_take 1 F_l_take) : Has P w K mg base "_law_grown" p__law_grown 2 F_l_grown :=
  has_of (k := 1) D bi__law_grown (N := N__law_grown) sc__law_grown rfl (by decide) fun f cdv A outer s H E c =>
  (sb_cons (z_set c.toCtx 2 (se_dat (sf_lst (sa_cons (se_tup (sa_cons se_int (sa_cons se_int sa_nil))) sa_nil))))
  (sb_cons (z_set c.toCtx 3 se_int)
  (sb_cons (z_for c (si_r1 rfl m_range (sa_cons (w_v 1) sa_nil)) (g_name c.toCtx 4) (sb_cons (z_set c.toCtx 5 (w_call c.toCtx (H__law_take) (sa_cons (w_v 0) (sa_cons (w_len m_len (sa_cons (w_v 2) sa_nil)) sa_nil)) ))
  (sb_cons (ss_asg (w_ix c.toCtx (w_v 2) (w_v 5)) (sg_tup c.toCtx.cm (sgs_cons (g_name c.toCtx 6) (sgs_cons (g_name c.toCtx 7) sgs_nil))))
  (sb_one (ss_if (st_w (sw_and (t_eq c.toCtx (w_call c.toCtx (H__law_take) (sa_cons (w_v 0) (sa_cons se_int sa_nil)) ) se_int) (sw_and1 (t_lt c.toCtx (w_v 3) se_int)))) (sb_cons (z_set c.toCtx 2 (w_add (w_add (se_sl (w_v 2) so_none (so_some (w_v 5))) (se_dat (sf_lst (sa_cons (se_tup (sa_cons (w_v 6) (sa_cons (w_v 3) sa_nil))) (sa_cons (se_tup (sa_cons (w_v 3) (sa_cons (w_v 7) sa_nil))) sa_nil))))) (se_sl (w_v 2) (so_some (w_add (w_v 5) se_int)) so_none)))
  (sb_one (z_set c.toCtx 3 (w_add (w_v 3) se_int)))) (sb_one (z_set c.toCtx 2 (w_add (w_add (se_sl (w_v 2) so_none (so_some (w_v 5))) (se_dat (sf_lst (sa_cons (se_tup (sa_cons (w_v 6) (sa_cons (w_v 7) sa_nil))) sa_nil)))) (se_sl (w_v 2) (so_some (w_v 5)) so_none)))))))))
  (sb_one (ss_ret (se_tup (sa_cons (w_v 3) (sa_cons se_int (sa_cons se_int (sa_cons (w_tuple m_tuple (sa_cons (w_v 2) sa_nil)) sa_nil))))))))))
theorem H__law_shape (D : Def K mg "_law_shape" (top 18)) (m_range : mg "range" = none) (m_tuple : mg "tuple" = none) (H__law_take : Has P w K mg base "_law_take" p__law_take 1 F_l_take) (H__law_order_of : Has P w K mg base "_law_order_of" p__law_order_of 2 F_l_order_of) : Has P w K mg base "_law_shape" p__law_shape 3 F_l_shape :=
  has_of (k := 2) D bi__law_shape (N := N__law_shape) sc__law_shape rfl (by decide) fun f cdv A outer s H E c =>
  (sb_cons (z_set c.toCtx 3 (w_add se_int (w_call c.toCtx (H__law_take) (sa_cons (w_v 0) (sa_cons (w_sub (w_v 1) se_int) sa_nil)) )))
  (sb_cons (z_set c.toCtx 4 (w_call c.toCtx (H__law_order_of) (sa_cons (w_v 0) (sa_cons (w_v 3) sa_nil)) ))
  (sb_cons (z_set c.toCtx 5 (se_new (sf_lst sa_nil)))
  (sb_cons (z_for c (si_r1 rfl m_range (sa_cons (w_call c.toCtx (H__law_take) (sa_cons (w_v 0) (sa_cons (w_add (w_v 2) se_int) sa_nil)) ) sa_nil)) (g_name c.toCtx 6) (sb_cons (z_set c.toCtx 7 (w_call c.toCtx (H__law_take) (sa_cons (w_v 0) (sa_cons (w_sub (w_v 3) se_int) sa_nil)) ))
  (sb_cons (z_set c.toCtx 8 (w_add (w_add (w_v 7) se_int) (w_call c.toCtx (H__law_take) (sa_cons (w_v 0) (sa_cons (w_sub (w_sub (w_v 3) se_int) (w_v 7)) sa_nil)) )))
  (sb_one (ss_expr (se_append (w_v 5) (sa_cons (se_tup (sa_cons (w_ix c.toCtx (w_v 4) (w_v 7)) (sa_cons (w_ix c.toCtx (w_v 4) (w_v 8)) sa_nil))) sa_nil)))))))
  (sb_cons (z_set c.toCtx 9 (w_ix c.toCtx (se_dat (sf_lst (sa_cons se_int (sa_cons se_int (sa_cons se_int (sa_cons (w_call c.toCtx (H__law_take) (sa_cons (w_v 0) (sa_cons (w_sub (w_v 3) se_int) sa_nil)) ) sa_nil)))))) (w_call c.toCtx (H__law_take) (sa_cons (w_v 0) (sa_cons se_int sa_nil)) )))
  (sb_one (ss_ret (se_tup (sa_cons (w_v 3) (sa_cons (w_ix c.toCtx (w_v 4) (w_v 9)) (sa_cons (w_ix c.toCtx (w_v 4) (se_neg se_int)) (sa_cons (w_tuple m_tuple (sa_cons (w_v 5) sa_nil)) sa_nil))))))))))))
theorem H_is_whole (D : Def K mg "is_whole" (top 1)) (m_bool : mg "bool" = none) (m_int : mg "int" = none) (m_isinstance : mg "isinstance" = none) : Has P w K mg base "is_whole" p_is_whole 1 F_is_whole :=
  has_of (k := 0) D bi_is_whole (N := N_is_whole) sc_is_whole rfl (by decide) fun f cdv A outer s H E c =>
  (sb_one (ss_ret (se_and (se_isi rfl m_isinstance rfl m_int rfl kit_int (w_v 0)) (se_and (se_not (se_isi rfl m_isinstance rfl m_bool rfl kit_bool (w_v 0))) (se_one (w_ge c.toCtx (w_v 0) se_int))))))
theorem H_is_place (D : Def K mg "is_place" (top 2)) (H_is_whole : Has P w K mg base "is_whole" p_is_whole 1 F_is_whole) : Has P w K mg base "is_place" p_is_place 2 F_is_place :=
  has_of (k := 1) D bi_is_place (N := N_is_place) sc_is_place rfl (by decide) fun f cdv A outer s H E c =>
  (sb_one (ss_ret (se_and (w_call c.toCtx (H_is_whole) (sa_cons (w_v 1) sa_nil) ) (se_one (w_lt c.toCtx (w_v 1) (w_v 0))))))
theorem H_is_pair (D : Def K mg "is_pair" (top 4)) (m_all : mg "all" = none) (m_isinstance : mg "isinstance" = none) (m_len : mg "len" = none) (m_tuple : mg "tuple" = none) (H_is_place : Has P w K mg base "is_place" p_is_place 2 F_is_place) : Has P w K mg base "is_pair" p_is_pair 3 F_is_pair :=
  has_of (k := 2) D bi_is_pair (N := N_is_pair) sc_is_pair rfl (by decide) fun f cdv A outer s H E c =>
  (sb_cons (ss_if (st_w (sw_or (st_not (st_val (se_isi rfl m_isinstance rfl m_tuple rfl kit_tuple (w_v 2)))) (sw_or (t_ne c.toCtx (w_len m_len (sa_cons (w_v 2) sa_nil)) se_int) (sw_or1 (st_not (st_val (w_all c.toCtx m_all (sa_cons (se_dat (sf_comp c.toCtx.cm c.toCtx.nd (own := [("place", 3)]) (si_v (w_v 2)) (blkOk_by (by rfl)) (by decide) (fun s1 Z1 D1 l1 p1 => (g_name (Ctx.bk c.toCtx s1 Z1 _ _ p1) 3)) (fun s1 Z1 D1 l1 p1 => sts_nil) (fun s1 Z1 D1 l1 p1 => (w_call (Ctx.bk c.toCtx s1 Z1 _ _ p1) (H_is_place) (sa_cons (w_v 0) (sa_cons (w_v 3) sa_nil)) )))) sa_nil)))))))) (sb_one (ss_ret se_bl)) sb_nil)
  (sb_one (ss_ret (se_and (w_ne c.toCtx (w_ix c.toCtx (w_v 2) se_int) (w_ix c.toCtx (w_v 2) se_int)) (se_one (w_ne c.toCtx (w_ix c.toCtx (w_v 2) se_int) (w_v 1)))))))
theorem H_reached (D : Def K mg "reached" (top 5)) (m_len : mg "len" = none) : Has P w K mg base "reached" p_reached 1 F_reached :=
  has_of (k := 0) D bi_reached (N := N_reached) sc_reached rfl (by decide) fun f cdv A outer s H E c =>
  (sb_cons (by first | exact ss_newDcomp c.toCtx.cm c.toCtx.nd (i := 2) rfl rfl rfl (own := [("place", 6)]) (si_v (w_v 1)) (blkOk_by (by rfl)) (by decide) (fun s2 Z2 D2 l2 p2 => (g_name (Ctx.bk c.toCtx s2 Z2 _ _ p2) 6)) (fun s2 Z2 D2 l2 p2 => sts_nil) (fun s2 Z2 D2 l2 p2 => (w_v 6)) (fun s2 Z2 D2 l2 p2 => se_bl) | exact (z_set c.toCtx 2 (se_new (sf_dcomp c.toCtx.cm c.toCtx.nd (own := [("place", 6)]) (si_v (w_v 1)) (blkOk_by (by rfl)) (by decide) (fun s1 Z1 D1 l1 p1 => (g_name (Ctx.bk c.toCtx s1 Z1 _ _ p1) 6)) (fun s1 Z1 D1 l1 p1 => sts_nil) (fun s1 Z1 D1 l1 p1 => (w_v 6)) (fun s1 Z1 D1 l1 p1 => se_bl)))))
  (sb_cons (z_set c.toCtx 3 se_int)
  (sb_cons (z_while c (t_ne c.toCtx (w_v 3) (w_len m_len (sa_cons (w_v 2) sa_nil))) (sb_cons (z_set c.toCtx 3 (w_len m_len (sa_cons (w_v 2) sa_nil)))
  (sb_one (z_for c (si_v (w_v 0)) (sg_tup c.toCtx.cm (sgs_cons (g_name c.toCtx 4) (sgs_cons (g_name c.toCtx 5) sgs_nil))) (sb_one (ss_if (t_in c.toCtx (w_v 4) (w_v 2)) (sb_one (ss_asg se_bl (sg_ix c.toCtx.u1 (w_v 2) (w_v 5)))) sb_nil))))))
  (sb_one (ss_ret (w_v 2))))))
theorem H_has_round (D : Def K mg "has_round" (top 6)) (m_any : mg "any" = none) (H_reached : Has P w K mg base "reached" p_reached 1 F_reached) : Has P w K mg base "has_round" p_has_round 2 F_has_round :=
  has_of (k := 1) D bi_has_round (N := N_has_round) sc_has_round rfl (by decide) fun f cdv A outer s H E c =>
  (sb_one (ss_ret (w_any c.toCtx m_any (sa_cons (se_dat (sf_comp c.toCtx.cm c.toCtx.nd (own := [("u", 1), ("v", 2)]) (si_v (w_v 0)) (blkOk_by (by rfl)) (by decide) (fun s1 Z1 D1 l1 p1 => (sg_tup (Ctx.bk c.toCtx s1 Z1 _ _ p1).cm (sgs_cons (g_name (Ctx.bk c.toCtx s1 Z1 _ _ p1) 1) (sgs_cons (g_name (Ctx.bk c.toCtx s1 Z1 _ _ p1) 2) sgs_nil)))) (fun s1 Z1 D1 l1 p1 => sts_nil) (fun s1 Z1 D1 l1 p1 => (w_in (Ctx.bk c.toCtx s1 Z1 _ _ p1) (w_v 1) (w_call (Ctx.bk c.toCtx s1 Z1 _ _ p1) (H_reached) (sa_cons (w_v 0) (sa_cons (se_dat (sf_lst (sa_cons (w_v 2) sa_nil))) sa_nil)) ))))) sa_nil))))
theorem H_is_right_shape (D : Def K mg "is_right_shape" (top 7)) (m_all : mg "all" = none) (m_isinstance : mg "isinstance" = none) (m_len : mg "len" = none) (m_tuple : mg "tuple" = none) (H_is_whole : Has P w K mg base "is_whole" p_is_whole 1 F_is_whole) (H_is_place : Has P w K mg base "is_place" p_is_place 2 F_is_place) (H_is_pair : Has P w K mg base "is_pair" p_is_pair 3 F_is_pair) (H_has_round : Has P w K mg base "has_round" p_has_round 2 F_has_round) : Has P w K mg base "is_right_shape" p_is_right_shape 4 F_is_right_shape :=
  has_of (k := 3) D bi_is_right_shape (N := N_is_right_shape) sc_is_right_shape rfl (by decide) fun f cdv A outer s H E c =>
  (sb_cons (ss_if (st_w (sw_or (st_not (st_val (se_isi rfl m_isinstance rfl m_tuple rfl kit_tuple (w_v 0)))) (sw_or (t_ne c.toCtx (w_len m_len (sa_cons (w_v 0) sa_nil)) se_int) (sw_or (st_not (st_val (w_call c.toCtx (H_is_whole) (sa_cons (w_ix c.toCtx (w_v 0) se_int) sa_nil) ))) (sw_or1 (t_lt c.toCtx (w_ix c.toCtx (w_v 0) se_int) se_int)))))) (sb_one (ss_ret se_bl)) sb_nil)
  (sb_cons (ss_asg (w_v 0) (sg_tup c.toCtx.cm (sgs_cons (g_name c.toCtx 1) (sgs_cons (g_name c.toCtx 2) (sgs_cons (g_name c.toCtx 3) (sgs_cons (g_name c.toCtx 4) sgs_nil))))))
  (sb_cons (ss_if (st_w (sw_or (st_not (st_val (w_call c.toCtx (H_is_place) (sa_cons (w_v 1) (sa_cons (w_v 2) sa_nil)) ))) (sw_or (st_not (st_val (w_call c.toCtx (H_is_place) (sa_cons (w_v 1) (sa_cons (w_v 3) sa_nil)) ))) (sw_or (t_eq c.toCtx (w_v 2) (w_v 3)) (sw_or1 (st_not (st_val (se_isi rfl m_isinstance rfl m_tuple rfl kit_tuple (w_v 4))))))))) (sb_one (ss_ret se_bl)) sb_nil)
  (sb_one (ss_ret (se_and (w_all c.toCtx m_all (sa_cons (se_dat (sf_comp c.toCtx.cm c.toCtx.nd (own := [("pair", 5)]) (si_v (w_v 4)) (blkOk_by (by rfl)) (by decide) (fun s1 Z1 D1 l1 p1 => (g_name (Ctx.bk c.toCtx s1 Z1 _ _ p1) 5)) (fun s1 Z1 D1 l1 p1 => sts_nil) (fun s1 Z1 D1 l1 p1 => (w_call (Ctx.bk c.toCtx s1 Z1 _ _ p1) (H_is_pair) (sa_cons (w_v 1) (sa_cons (w_v 3) (sa_cons (w_v 5) sa_nil))) )))) sa_nil)) (se_one (se_not (w_call c.toCtx (H_has_round) (sa_cons (w_v 4) sa_nil) )))))))))
theorem H_is_shape (D : Def K mg "is_shape" (top 8)) (H_is_right_shape : Has P w K mg base "is_right_shape" p_is_right_shape 4 F_is_right_shape) : Has P w K mg base "is_shape" p_is_shape 5 F_is_shape :=
  has_of (k := 4) D bi_is_shape (N := N_is_shape) sc_is_shape rfl (by decide) fun f cdv A outer s H E c =>
  (sb_one (ss_ret (w_call c.toCtx (H_is_right_shape) (sa_cons (w_v 0) sa_nil) )))
theorem H__law_bent (D : Def K mg "_law_bent" (top 23)) (m_isinstance : mg "isinstance" = none) (m_len : mg "len" = none) (m_tuple : mg "tuple" = none) (H__law_take : Has P w K mg base "_law_take" p__law_take 1 F_l_take) : ∀ d, Has P w K mg base "_law_bent" p__law_bent (1 + d) (F_l_bent_v2 d)
  | 0 => has_no D bi__law_bent
  | d + 1 => by
    have H__law_bent := H__law_bent D m_isinstance m_len m_tuple H__law_take d
    exact has_of (k := 1 + d) D bi__law_bent (N := N__law_bent) sc__law_bent rfl (by decide) fun f cdv A outer s H E c =>
  (sb_cons (z_set c.toCtx 3 (w_ix c.toCtx (se_dat (sf_lst (sa_cons se_non (sa_cons se_bl (sa_cons se_bl (sa_cons se_int (sa_cons se_int (sa_cons se_int (sa_cons (se_neg se_int) (sa_cons se_str (sa_cons se_str (sa_cons (se_tup sa_nil) (sa_cons (se_dat (sf_lst sa_nil)) (sa_cons (se_tup (sa_cons se_int (sa_cons se_int sa_nil))) (sa_cons (se_tup (sa_cons se_int (sa_cons se_int sa_nil))) (sa_cons (se_tup (sa_cons se_int (sa_cons se_int sa_nil))) sa_nil)))))))))))))))) (w_call c.toCtx (H__law_take) (sa_cons (w_v 0) (sa_cons se_int sa_nil)) (by first | decide | omega))))
  (sb_cons (ss_if (st_w (sw_or (st_not (st_val (se_isi rfl m_isinstance rfl m_tuple rfl kit_tuple (w_v 1)))) (sw_or (t_eq c.toCtx (w_v 1) (se_tup sa_nil)) (sw_or (t_eq c.toCtx (w_v 2) se_int) (sw_or1 (t_eq c.toCtx (w_call c.toCtx (H__law_take) (sa_cons (w_v 0) (sa_cons se_int sa_nil)) (by first | decide | omega)) se_int)))))) (sb_one (ss_ret (w_ix c.toCtx (se_dat (sf_lst (sa_cons (w_v 3) (sa_cons (w_v 3) (sa_cons (se_dat (sf_lst (sa_cons (w_v 1) sa_nil))) sa_nil))))) (w_call c.toCtx (H__law_take) (sa_cons (w_v 0) (sa_cons se_int sa_nil)) (by first | decide | omega))))) sb_nil)
  (sb_cons (z_set c.toCtx 4 (w_call c.toCtx (H__law_take) (sa_cons (w_v 0) (sa_cons (w_len m_len (sa_cons (w_v 1) sa_nil)) sa_nil)) (by first | decide | omega)))
  (sb_cons (z_set c.toCtx 5 (w_call c.toCtx (H__law_take) (sa_cons (w_v 0) (sa_cons se_int sa_nil)) (by first | decide | omega)))
  (sb_cons (ss_if (t_eq c.toCtx (w_v 5) se_int) (sb_one (ss_ret (w_add (se_sl (w_v 1) so_none (so_some (w_v 4))) (se_sl (w_v 1) (so_some (w_add (w_v 4) se_int)) so_none)))) sb_nil)
  (sb_cons (ss_if (t_eq c.toCtx (w_v 5) se_int) (sb_one (ss_ret (w_add (w_add (se_sl (w_v 1) so_none (so_some (w_v 4))) (se_tup (sa_cons (w_v 3) sa_nil))) (se_sl (w_v 1) (so_some (w_v 4)) so_none)))) sb_nil)
  (sb_cons (ss_if (t_eq c.toCtx (w_v 5) se_int) (sb_one (ss_ret (se_rev (w_v 1)))) sb_nil)
  (sb_one (ss_ret (w_add (w_add (se_sl (w_v 1) so_none (so_some (w_v 4))) (se_tup (sa_cons (w_call c.toCtx (H__law_bent) (sa_cons (w_v 0) (sa_cons (w_ix c.toCtx (w_v 1) (w_v 4)) (sa_cons (w_sub (w_v 2) se_int) sa_nil))) (by first | decide | omega)) sa_nil))) (se_sl (w_v 1) (so_some (w_add (w_v 4) se_int)) so_none)))))))))))
theorem H__law_whole (D : Def K mg "_law_whole" (top 15)) (m_bool : mg "bool" = none) (m_int : mg "int" = none) (m_isinstance : mg "isinstance" = none) : Has P w K mg base "_law_whole" p__law_whole 1 F_l_whole :=
  has_of (k := 0) D bi__law_whole (N := N__law_whole) sc__law_whole rfl (by decide) fun f cdv A outer s H E c =>
  (sb_one (ss_ret (se_and (se_isi rfl m_isinstance rfl m_int rfl kit_int (w_v 0)) (se_one (se_not (se_isi rfl m_isinstance rfl m_bool rfl kit_bool (w_v 0)))))))
theorem H__law_is_from (D : Def K mg "_law_is_from" (top 16)) (H__law_whole : Has P w K mg base "_law_whole" p__law_whole 1 F_l_whole) : Has P w K mg base "_law_is_from" p__law_is_from 2 F_l_is_from :=
  has_of (k := 1) D bi__law_is_from (N := N__law_is_from) sc__law_is_from rfl (by decide) fun f cdv A outer s H E c =>
  (sb_one (ss_ret (se_and (w_call c.toCtx (H__law_whole) (sa_cons (w_v 0) sa_nil) ) (se_one (w_ge c.toCtx (w_v 0) (w_v 1))))))
theorem H__law_is_place (D : Def K mg "_law_is_place" (top 17)) (H__law_is_from : Has P w K mg base "_law_is_from" p__law_is_from 2 F_l_is_from) : Has P w K mg base "_law_is_place" p__law_is_place 3 F_l_is_place :=
  has_of (k := 2) D bi__law_is_place (N := N__law_is_place) sc__law_is_place rfl (by decide) fun f cdv A outer s H E c =>
  (sb_one (ss_ret (se_and (w_call c.toCtx (H__law_is_from) (sa_cons (w_v 1) (sa_cons se_int sa_nil)) ) (se_one (w_lt c.toCtx (w_v 1) (w_v 0))))))
theorem H__law_once (D : Def K mg "_law_once" (top 10)) : Has P w K mg base "_law_once" p__law_once 1 F_l_once :=
  has_of (k := 0) D bi__law_once (N := N__law_once) sc__law_once rfl (by decide) fun f cdv A outer s H E c =>
  (sb_cons (z_set c.toCtx 1 (se_new sf_d0))
  (sb_cons (z_for c (si_v (w_v 0)) (g_name c.toCtx 2) (sb_one (ss_asg se_bl (sg_ix c.toCtx.u1 (w_v 1) (w_v 2)))))
  (sb_one (ss_ret (se_dat (sf_compK c.toCtx.cm c.toCtx.nd (own := [("_law_one", 2)])  (blkOk_by (by rfl)) (by decide) (fun s1 Z1 D1 l1 p1 => (g_name (Ctx.bk c.toCtx s1 Z1 _ _ p1) 2)) (fun s1 Z1 D1 l1 p1 => sts_nil) (fun s1 Z1 D1 l1 p1 => (w_v 2))))))))
theorem H__law_is_shape (D : Def K mg "_law_is_shape" (top 21)) (m_isinstance : mg "isinstance" = none) (m_len : mg "len" = none) (m_range : mg "range" = none) (m_tuple : mg "tuple" = none) (H__law_is_from : Has P w K mg base "_law_is_from" p__law_is_from 2 F_l_is_from) (H__law_is_place : Has P w K mg base "_law_is_place" p__law_is_place 3 F_l_is_place) (H__law_once : Has P w K mg base "_law_once" p__law_once 1 F_l_once) : Has P w K mg base "_law_is_shape" p__law_is_shape 4 F_l_is_shape :=
  has_of (k := 3) D bi__law_is_shape (N := N__law_is_shape) sc__law_is_shape rfl (by decide) fun f cdv A outer s H E c =>
  (sb_cons (ss_if (st_w (sw_or (st_not (st_val (se_isi rfl m_isinstance rfl m_tuple rfl kit_tuple (w_v 0)))) (sw_or (t_ne c.toCtx (w_len m_len (sa_cons (w_v 0) sa_nil)) se_int) (sw_or1 (st_not (st_val (w_call c.toCtx (H__law_is_from) (sa_cons (w_ix c.toCtx (w_v 0) se_int) (sa_cons se_int sa_nil)) ))))))) (sb_one (ss_ret se_bl)) sb_nil)
  (sb_cons (ss_asg (w_v 0) (sg_tup c.toCtx.cm (sgs_cons (g_name c.toCtx 1) (sgs_cons (g_name c.toCtx 2) (sgs_cons (g_name c.toCtx 3) (sgs_cons (g_name c.toCtx 4) sgs_nil))))))
  (sb_cons (ss_if (st_w (sw_or (st_not (st_val (w_call c.toCtx (H__law_is_place) (sa_cons (w_v 1) (sa_cons (w_v 2) sa_nil)) ))) (sw_or (st_not (st_val (w_call c.toCtx (H__law_is_place) (sa_cons (w_v 1) (sa_cons (w_v 3) sa_nil)) ))) (sw_or (t_eq c.toCtx (w_v 2) (w_v 3)) (sw_or1 (st_not (st_val (se_isi rfl m_isinstance rfl m_tuple rfl kit_tuple (w_v 4))))))))) (sb_one (ss_ret se_bl)) sb_nil)
  (sb_cons (z_for c (si_v (w_v 4)) (g_name c.toCtx 5) (sb_cons (ss_if (st_w (sw_or (st_not (st_val (se_isi rfl m_isinstance rfl m_tuple rfl kit_tuple (w_v 5)))) (sw_or (t_ne c.toCtx (w_len m_len (sa_cons (w_v 5) sa_nil)) se_int) (sw_or1 (st_not (st_val (w_call c.toCtx (H__law_is_place) (sa_cons (w_v 1) (sa_cons (w_ix c.toCtx (w_v 5) se_int) sa_nil)) ))))))) (sb_one (ss_ret se_bl)) sb_nil)
  (sb_one (ss_if (st_w (sw_or (st_not (st_val (w_call c.toCtx (H__law_is_place) (sa_cons (w_v 1) (sa_cons (w_ix c.toCtx (w_v 5) se_int) sa_nil)) ))) (sw_or (t_eq c.toCtx (w_ix c.toCtx (w_v 5) se_int) (w_ix c.toCtx (w_v 5) se_int)) (sw_or1 (t_eq c.toCtx (w_ix c.toCtx (w_v 5) se_int) (w_v 3)))))) (sb_one (ss_ret se_bl)) sb_nil))))
  (sb_cons (z_set c.toCtx 6 (w_call c.toCtx (H__law_once) (sa_cons (se_dat (sf_comp c.toCtx.cm c.toCtx.nd (own := [("_law_pair", 5)]) (si_v (w_v 4)) (blkOk_by (by rfl)) (by decide) (fun s1 Z1 D1 l1 p1 => (g_name (Ctx.bk c.toCtx s1 Z1 _ _ p1) 5)) (fun s1 Z1 D1 l1 p1 => sts_nil) (fun s1 Z1 D1 l1 p1 => (w_ix (Ctx.bk c.toCtx s1 Z1 _ _ p1) (w_v 5) se_int)))) sa_nil) ))
  (sb_cons (z_for c (si_r1 rfl m_range (sa_cons (w_add (w_len m_len (sa_cons (w_v 4) sa_nil)) se_int) sa_nil)) (g_name c.toCtx 7) (sb_one (by first | exact ss_setComp c.toCtx.cm c.toCtx.nd (i := 6) rfl rfl rfl (own := [("_law_place", 8)]) (si_v (w_v 6)) (blkOk_by (by rfl)) (by decide) (fun s4 Z4 D4 l4 p4 => (g_name (Ctx.bk c.toCtx s4 Z4 _ _ p4) 8)) (fun s4 Z4 D4 l4 p4 => (sts_one (t_ne (Ctx.bk c.toCtx s4 Z4 _ _ p4) (se_dat (sf_comp (Ctx.bk c.toCtx s4 Z4 _ _ p4).cm (Ctx.bk c.toCtx s4 Z4 _ _ p4).nd (own := [("_law_pair", 5)]) (si_v (w_v 4)) (blkOk_by (by rfl)) (by decide) (fun s5 Z5 D5 l5 p5 => (g_name (Ctx.bk (Ctx.bk c.toCtx s4 Z4 _ _ p4) s5 Z5 _ _ p5) 5)) (fun s5 Z5 D5 l5 p5 => (sts_one (st_w (sw_and (t_eq (Ctx.bk (Ctx.bk c.toCtx s4 Z4 _ _ p4) s5 Z5 _ _ p5) (w_ix (Ctx.bk (Ctx.bk c.toCtx s4 Z4 _ _ p4) s5 Z5 _ _ p5) (w_v 5) se_int) (w_v 8)) (sw_and1 (t_in (Ctx.bk (Ctx.bk c.toCtx s4 Z4 _ _ p4) s5 Z5 _ _ p5) (w_ix (Ctx.bk (Ctx.bk c.toCtx s4 Z4 _ _ p4) s5 Z5 _ _ p5) (w_v 5) se_int) (w_v 6))))))) (fun s5 Z5 D5 l5 p5 => (w_v 5)))) (se_dat (sf_lst sa_nil))))) (fun s4 Z4 D4 l4 p4 => (w_v 8)) | exact (z_set c.toCtx 6 (se_dat (sf_comp c.toCtx.cm c.toCtx.nd (own := [("_law_place", 8)]) (si_v (w_v 6)) (blkOk_by (by rfl)) (by decide) (fun s2 Z2 D2 l2 p2 => (g_name (Ctx.bk c.toCtx s2 Z2 _ _ p2) 8)) (fun s2 Z2 D2 l2 p2 => (sts_one (t_ne (Ctx.bk c.toCtx s2 Z2 _ _ p2) (se_dat (sf_comp (Ctx.bk c.toCtx s2 Z2 _ _ p2).cm (Ctx.bk c.toCtx s2 Z2 _ _ p2).nd (own := [("_law_pair", 5)]) (si_v (w_v 4)) (blkOk_by (by rfl)) (by decide) (fun s3 Z3 D3 l3 p3 => (g_name (Ctx.bk (Ctx.bk c.toCtx s2 Z2 _ _ p2) s3 Z3 _ _ p3) 5)) (fun s3 Z3 D3 l3 p3 => (sts_one (st_w (sw_and (t_eq (Ctx.bk (Ctx.bk c.toCtx s2 Z2 _ _ p2) s3 Z3 _ _ p3) (w_ix (Ctx.bk (Ctx.bk c.toCtx s2 Z2 _ _ p2) s3 Z3 _ _ p3) (w_v 5) se_int) (w_v 8)) (sw_and1 (t_in (Ctx.bk (Ctx.bk c.toCtx s2 Z2 _ _ p2) s3 Z3 _ _ p3) (w_ix (Ctx.bk (Ctx.bk c.toCtx s2 Z2 _ _ p2) s3 Z3 _ _ p3) (w_v 5) se_int) (w_v 6))))))) (fun s3 Z3 D3 l3 p3 => (w_v 5)))) (se_dat (sf_lst sa_nil))))) (fun s2 Z2 D2 l2 p2 => (w_v 8))))))))
  (sb_one (ss_ret (w_eq c.toCtx (w_v 6) (se_dat (sf_lst sa_nil)))))))))))
theorem H__law_good (D : Def K mg "_law_good" (top 24)) (m_bool : mg "bool" = none) (m_isinstance : mg "isinstance" = none) (m_repr : mg "repr" = none) (H_is_shape : Has P w K mg base "is_shape" p_is_shape 5 F_is_shape) (H__law_is_shape : Has P w K mg base "_law_is_shape" p__law_is_shape 4 F_l_is_shape) : Has P w K mg base "_law_good" p__law_good 6 F_l_good_v3 :=
  has_of (k := 5) D bi__law_good (N := N__law_good) sc__law_good rfl (by decide) fun f cdv A outer s H E c =>
  (sb_cons (z_set c.toCtx 1 (w_repr c.toCtx m_repr (sa_cons (w_v 0) sa_nil)))
  (sb_cons (z_set c.toCtx 2 (w_call c.toCtx (H_is_shape) (sa_cons (w_v 0) sa_nil) ))
  (sb_one (ss_ret (se_and (se_isi rfl m_isinstance rfl m_bool rfl kit_bool (w_v 2)) (se_and (w_eq c.toCtx (w_v 2) (w_call c.toCtx (H__law_is_shape) (sa_cons (w_v 0) sa_nil) )) (se_one (w_eq c.toCtx (w_repr c.toCtx m_repr (sa_cons (w_v 0) sa_nil)) (w_v 1)))))))))
theorem H__law_bad_shapes (D : Def K mg "_law_bad_shapes" (top 22)) : Has P w K mg base "_law_bad_shapes" p__law_bad_shapes 1 F_l_bad_shapes :=
  has_of (k := 0) D bi__law_bad_shapes (N := N__law_bad_shapes) sc__law_bad_shapes rfl (by decide) fun f cdv A outer s H E c =>
  (sb_cons (z_set c.toCtx 0 (se_new (sf_lst (sa_cons se_non (sa_cons se_int (sa_cons se_bl (sa_cons se_str (sa_cons (se_tup sa_nil) (sa_cons (se_dat (sf_lst sa_nil)) (sa_cons (se_tup (sa_cons se_int (sa_cons se_int (sa_cons se_int sa_nil)))) (sa_cons (se_tup (sa_cons se_int (sa_cons se_int (sa_cons se_int (sa_cons (se_tup sa_nil) (sa_cons (se_tup sa_nil) sa_nil)))))) (sa_cons (se_dat (sf_lst (sa_cons se_int (sa_cons se_int (sa_cons se_int (sa_cons (se_tup sa_nil) sa_nil)))))) (sa_cons (se_tup (sa_cons se_int (sa_cons se_int (sa_cons se_int (sa_cons (se_dat (sf_lst sa_nil)) sa_nil))))) (sa_cons (se_tup (sa_cons se_int (sa_cons se_int (sa_cons se_int (sa_cons se_non sa_nil))))) sa_nil))))))))))))))
  (sb_cons (z_for c (si_v (se_dat (sf_lst (sa_cons se_int (sa_cons se_int (sa_cons (se_neg se_int) (sa_cons se_bl (sa_cons se_non (sa_cons se_str sa_nil))))))))) (g_name c.toCtx 1) (sb_one (ss_expr (se_append (w_v 0) (sa_cons (se_tup (sa_cons (w_v 1) (sa_cons se_int (sa_cons se_int (sa_cons (se_tup sa_nil) sa_nil))))) sa_nil)))))
  (sb_cons (z_for c (si_v (se_dat (sf_lst (sa_cons se_int (sa_cons (se_neg se_int) (sa_cons se_bl (sa_cons se_non (sa_cons se_str (sa_cons (se_tup (sa_cons se_int sa_nil)) sa_nil))))))))) (g_name c.toCtx 2) (sb_one (z_set c.toCtx 0 (se_new (sf_cat (w_v 0) (se_dat (sf_lst (sa_cons (se_tup (sa_cons se_int (sa_cons (w_v 2) (sa_cons se_int (sa_cons (se_tup sa_nil) sa_nil))))) (sa_cons (se_tup (sa_cons se_int (sa_cons se_int (sa_cons (w_v 2) (sa_cons (se_tup sa_nil) sa_nil))))) sa_nil)))))))))
  (sb_cons (z_set c.toCtx 3 (se_dat (sf_lst (sa_cons se_non (sa_cons (se_tup sa_nil) (sa_cons (se_tup (sa_cons se_int sa_nil)) (sa_cons (se_tup (sa_cons se_int (sa_cons se_int (sa_cons se_int sa_nil)))) (sa_cons (se_dat (sf_lst (sa_cons se_int (sa_cons se_int sa_nil)))) (sa_cons (se_tup (sa_cons se_int (sa_cons se_int sa_nil))) (sa_cons (se_tup (sa_cons se_int (sa_cons se_int sa_nil))) (sa_cons (se_tup (sa_cons se_int (sa_cons se_int sa_nil))) (sa_cons (se_tup (sa_cons (se_neg se_int) (sa_cons se_int sa_nil))) (sa_cons (se_tup (sa_cons se_bl (sa_cons se_int sa_nil))) (sa_cons (se_tup (sa_cons se_int (sa_cons se_bl sa_nil))) (sa_cons (se_tup (sa_cons se_str (sa_cons se_int sa_nil))) (sa_cons se_int sa_nil))))))))))))))))
  (sb_cons (z_set c.toCtx 3 (w_add (w_v 3) (se_dat (sf_lst (sa_cons (se_tup (sa_cons se_int (sa_cons (se_neg se_int) sa_nil))) (sa_cons (se_tup (sa_cons se_int (sa_cons se_int sa_nil))) sa_nil))))))
  (sb_cons (z_for c (si_v (w_v 3)) (g_name c.toCtx 2) (sb_one (z_set c.toCtx 0 (se_new (sf_cat (w_v 0) (se_dat (sf_lst (sa_cons (se_tup (sa_cons se_int (sa_cons se_int (sa_cons se_int (sa_cons (se_tup (sa_cons (w_v 2) sa_nil)) sa_nil))))) (sa_cons (se_tup (sa_cons se_int (sa_cons se_int (sa_cons se_int (sa_cons (se_tup (sa_cons (se_tup (sa_cons se_int (sa_cons se_int sa_nil))) (sa_cons (w_v 2) sa_nil))) sa_nil))))) (sa_cons (se_tup (sa_cons se_int (sa_cons se_int (sa_cons se_int (sa_cons (se_tup (sa_cons (se_tup (sa_cons se_int (sa_cons se_int sa_nil))) (sa_cons (w_v 2) (sa_cons (se_tup (sa_cons se_int (sa_cons se_int sa_nil))) sa_nil)))) sa_nil))))) sa_nil))))))))))
  (sb_cons (z_set c.toCtx 0 (se_new (sf_cat (w_v 0) (se_dat (sf_lst (sa_cons (se_tup (sa_cons se_int (sa_cons se_int (sa_cons se_int (sa_cons (se_tup sa_nil) sa_nil))))) (sa_cons (se_tup (sa_cons se_int (sa_cons se_int (sa_cons se_int (sa_cons (se_tup (sa_cons (se_tup (sa_cons se_int (sa_cons se_int sa_nil))) (sa_cons (se_tup (sa_cons se_int (sa_cons se_int sa_nil))) sa_nil))) sa_nil))))) (sa_cons (se_tup (sa_cons se_int (sa_cons se_int (sa_cons se_int (sa_cons (se_tup (sa_cons (se_tup (sa_cons se_int (sa_cons se_int sa_nil))) (sa_cons (se_tup (sa_cons se_int (sa_cons se_int sa_nil))) (sa_cons (se_tup (sa_cons se_int (sa_cons se_int sa_nil))) (sa_cons (se_tup (sa_cons se_int (sa_cons se_int sa_nil))) sa_nil))))) sa_nil))))) sa_nil))))))))
  (sb_cons (z_set c.toCtx 0 (se_new (sf_cat (w_v 0) (se_dat (sf_lst (sa_cons (se_tup (sa_cons se_int (sa_cons se_int (sa_cons se_int (sa_cons (se_tup (sa_cons (se_tup (sa_cons se_int (sa_cons se_int sa_nil))) (sa_cons (se_tup (sa_cons se_int (sa_cons se_int sa_nil))) (sa_cons (se_tup (sa_cons se_int (sa_cons se_int sa_nil))) (sa_cons (se_tup (sa_cons se_int (sa_cons se_int sa_nil))) (sa_cons (se_tup (sa_cons se_int (sa_cons se_int sa_nil))) sa_nil)))))) sa_nil))))) (sa_cons (se_tup (sa_cons se_int (sa_cons se_int (sa_cons se_int (sa_cons (se_tup (sa_cons (se_tup (sa_cons se_int (sa_cons se_int sa_nil))) (sa_cons (se_tup (sa_cons se_int (sa_cons se_int sa_nil))) (sa_cons (se_tup (sa_cons se_int (sa_cons se_int sa_nil))) sa_nil)))) sa_nil))))) sa_nil)))))))
  (sb_one (ss_ret (w_add (w_v 0) (se_dat (sf_lst (sa_cons (se_tup (sa_cons se_int (sa_cons se_int (sa_cons se_int (sa_cons (se_tup (sa_cons (se_tup (sa_cons se_int (sa_cons se_int sa_nil))) (sa_cons (se_tup (sa_cons se_int (sa_cons se_int sa_nil))) sa_nil))) sa_nil))))) sa_nil))))))))))))))
theorem H_law (D : Def K mg "law" (top 25)) (m_len : mg "len" = none) (m_max : mg "max" = none) (m_min : mg "min" = none) (m_range : mg "range" = none) (H__law_pile : HasF P w K mg base "_law_pile" p__law_pile 2 F_l_pile) (H__law_numbered : Has P w K mg base "_law_numbered" p__law_numbered 3 F_l_numbered) (H__law_grown : Has P w K mg base "_law_grown" p__law_grown 2 F_l_grown) (H__law_shape : Has P w K mg base "_law_shape" p__law_shape 3 F_l_shape) (H_is_shape : Has P w K mg base "is_shape" p_is_shape 5 F_is_shape) (H__law_bent : Has P w K mg base "_law_bent" p__law_bent 71 (F_l_bent_v2 70)) (H__law_good : Has P w K mg base "_law_good" p__law_good 6 F_l_good_v3) (H__law_bad_shapes : Has P w K mg base "_law_bad_shapes" p__law_bad_shapes 1 F_l_bad_shapes) : Has P w K mg base "law" p_law 72 F_law_k30 :=
  has_of (k := 71) D bi_law (N := N_law) sc_law rfl (by decide) fun f cdv A outer s H E c =>
  (sb_cons (z_for c (si_r1 rfl m_range (sa_cons (w_max2 c.toCtx m_max (sa_cons se_int (sa_cons (w_min2 c.toCtx m_min (sa_cons (w_len m_len (sa_cons (w_v 0) sa_nil)) (sa_cons se_int sa_nil))) sa_nil))) sa_nil)) (g_name c.toCtx 1) (sb_cons (z_set c.toCtx 2 (se_new (w_callF c.toCtx (H__law_pile) (sa_cons (w_v 0) (sa_cons (w_v 1) sa_nil)) )))
  (sb_one (z_for c (si_v (se_dat (sf_lst (sa_cons (w_call c.toCtx (H__law_shape) (sa_cons (w_v 2) (sa_cons se_int (sa_cons se_int sa_nil))) ) (sa_cons (w_call c.toCtx (H__law_numbered) (sa_cons (w_v 2) (sa_cons (w_call c.toCtx (H__law_grown) (sa_cons (w_v 2) (sa_cons se_int sa_nil)) ) sa_nil)) ) sa_nil))))) (g_name c.toCtx 3) (sb_cons (ss_asg (w_v 3) (sg_tup c.toCtx.cm (sgs_cons (g_name c.toCtx 6) (sgs_cons (g_name c.toCtx 7) (sgs_cons (g_name c.toCtx 8) (sgs_cons (g_name c.toCtx 9) sgs_nil))))))
  (sb_cons (ss_if (t_notB c.toCtx (w_call c.toCtx (H_is_shape) (sa_cons (w_v 3) sa_nil) ) se_bl) (sb_one (ss_ret se_bl)) sb_nil)
  (sb_cons (z_for c (si_r1 rfl m_range (sa_cons se_int sa_nil)) (g_name c.toCtx 4) (sb_cons (z_set c.toCtx 10 (w_call c.toCtx (H__law_bent) (sa_cons (w_v 2) (sa_cons (w_v 3) (sa_cons se_int sa_nil))) ))
  (sb_one (ss_if (st_not (st_val (w_call c.toCtx (H__law_good) (sa_cons (w_v 10) sa_nil) ))) (sb_one (ss_ret se_bl)) sb_nil))))
  (sb_one (z_for c (si_r1 rfl m_range (sa_cons (w_len m_len (sa_cons (w_v 9) sa_nil)) sa_nil)) (g_name c.toCtx 5) (sb_cons (z_set c.toCtx 11 (w_add (w_add (se_sl (w_v 9) so_none (so_some (w_v 5))) (se_tup (sa_cons (se_rev (w_ix c.toCtx (w_v 9) (w_v 5))) sa_nil))) (se_sl (w_v 9) (so_some (w_add (w_v 5) se_int)) so_none)))
  (sb_cons (z_set c.toCtx 12 (w_add (w_v 9) (se_tup (sa_cons (se_rev (w_ix c.toCtx (w_v 9) (w_v 5))) sa_nil))))
  (sb_one (ss_if (st_w (sw_or (st_not (st_val (w_call c.toCtx (H__law_good) (sa_cons (se_tup (sa_cons (w_v 6) (sa_cons (w_v 7) (sa_cons (w_v 8) (sa_cons (w_v 11) sa_nil))))) sa_nil) ))) (sw_or1 (st_not (st_val (w_call c.toCtx (H__law_good) (sa_cons (se_tup (sa_cons (w_v 6) (sa_cons (w_v 7) (sa_cons (w_v 8) (sa_cons (w_v 12) sa_nil))))) sa_nil) )))))) (sb_one (ss_ret se_bl)) sb_nil)))))))))))))
  (sb_cons (z_set c.toCtx 13 (w_pow se_int se_int))
  (sb_cons (z_set c.toCtx 14 (se_dat (sf_lst (sa_cons (se_tup (sa_cons (w_v 13) (sa_cons se_int (sa_cons se_int (sa_cons (se_tup sa_nil) sa_nil))))) (sa_cons (se_tup (sa_cons (w_v 13) (sa_cons se_int (sa_cons se_int (sa_cons (se_tup (sa_cons (se_tup (sa_cons se_int (sa_cons se_int sa_nil))) sa_nil)) sa_nil))))) (sa_cons (se_tup (sa_cons (w_v 13) (sa_cons se_int (sa_cons (w_sub (w_v 13) se_int) (sa_cons (se_tup (sa_cons (se_tup (sa_cons se_int (sa_cons (w_sub (w_v 13) se_int) sa_nil))) (sa_cons (se_tup (sa_cons (w_sub (w_v 13) se_int) (sa_cons (w_sub (w_v 13) se_int) sa_nil))) sa_nil))) sa_nil))))) sa_nil))))))
  (sb_cons (ss_if (st_w (sw_or (t_ne c.toCtx (se_dat (sf_comp c.toCtx.cm c.toCtx.nd (own := [("_law_thing", 15)]) (si_v (w_v 14)) (blkOk_by (by rfl)) (by decide) (fun s1 Z1 D1 l1 p1 => (g_name (Ctx.bk c.toCtx s1 Z1 _ _ p1) 15)) (fun s1 Z1 D1 l1 p1 => sts_nil) (fun s1 Z1 D1 l1 p1 => (w_call (Ctx.bk c.toCtx s1 Z1 _ _ p1) (H_is_shape) (sa_cons (w_v 15) sa_nil) )))) (w_mul (se_dat (sf_lst (sa_cons se_bl sa_nil))) se_int)) (sw_or1 (t_notB c.toCtx (w_call c.toCtx (H_is_shape) (sa_cons (se_tup (sa_cons (w_v 13) (sa_cons se_int (sa_cons (w_v 13) (sa_cons (se_tup sa_nil) sa_nil))))) sa_nil) ) se_bl)))) (sb_one (ss_ret se_bl)) sb_nil)
  (sb_one (ss_ret (w_eq c.toCtx (se_dat (sf_comp c.toCtx.cm c.toCtx.nd (own := [("_law_thing", 15)]) (si_v (w_call0 c.toCtx (H__law_bad_shapes) )) (blkOk_by (by rfl)) (by decide) (fun s2 Z2 D2 l2 p2 => (g_name (Ctx.bk c.toCtx s2 Z2 _ _ p2) 15)) (fun s2 Z2 D2 l2 p2 => (sts_one (t_notB (Ctx.bk c.toCtx s2 Z2 _ _ p2) (w_call (Ctx.bk c.toCtx s2 Z2 _ _ p2) (H_is_shape) (sa_cons (w_v 15) sa_nil) ) se_bl))) (fun s2 Z2 D2 l2 p2 => (w_v 15)))) (se_dat (sf_lst sa_nil)))))))))
def d__law_mixed : He.DefD := ⟨("_law_mixed", none), "_law_mixed", "_law_mixed", defArgs (top 11), defBody (top 11), defScope (top 11), [], []⟩
def d__law_pile : He.DefD := ⟨("_law_pile", none), "_law_pile", "_law_pile", defArgs (top 12), defBody (top 12), defScope (top 12), [], []⟩
def d__law_take : He.DefD := ⟨("_law_take", none), "_law_take", "_law_take", defArgs (top 13), defBody (top 13), defScope (top 13), [], []⟩
def d__law_order_of : He.DefD := ⟨("_law_order_of", none), "_law_order_of", "_law_order_of", defArgs (top 14), defBody (top 14), defScope (top 14), [], []⟩
def d__law_numbered : He.DefD := ⟨("_law_numbered", none), "_law_numbered", "_law_numbered", defArgs (top 20), defBody (top 20), defScope (top 20), [], []⟩
def d__law_grown : He.DefD := ⟨("_law_grown", none), "_law_grown", "_law_grown", defArgs (top 19), defBody (top 19), defScope (top 19), [], []⟩
def d__law_shape : He.DefD := ⟨("_law_shape", none), "_law_shape", "_law_shape", defArgs (top 18), defBody (top 18), defScope (top 18), [], []⟩
def d_is_whole : He.DefD := ⟨("is_whole", none), "is_whole", "is_whole", defArgs (top 1), defBody (top 1), defScope (top 1), [], []⟩
def d_is_place : He.DefD := ⟨("is_place", none), "is_place", "is_place", defArgs (top 2), defBody (top 2), defScope (top 2), [], []⟩
def d_is_pair : He.DefD := ⟨("is_pair", none), "is_pair", "is_pair", defArgs (top 4), defBody (top 4), defScope (top 4), [], []⟩
def d_reached : He.DefD := ⟨("reached", none), "reached", "reached", defArgs (top 5), defBody (top 5), defScope (top 5), [], []⟩
def d_has_round : He.DefD := ⟨("has_round", none), "has_round", "has_round", defArgs (top 6), defBody (top 6), defScope (top 6), [], []⟩
def d_is_right_shape : He.DefD := ⟨("is_right_shape", none), "is_right_shape", "is_right_shape", defArgs (top 7), defBody (top 7), defScope (top 7), [], []⟩
def d_is_shape : He.DefD := ⟨("is_shape", none), "is_shape", "is_shape", defArgs (top 8), defBody (top 8), defScope (top 8), [], []⟩
def d__law_bent : He.DefD := ⟨("_law_bent", none), "_law_bent", "_law_bent", defArgs (top 23), defBody (top 23), defScope (top 23), [], []⟩
def d__law_whole : He.DefD := ⟨("_law_whole", none), "_law_whole", "_law_whole", defArgs (top 15), defBody (top 15), defScope (top 15), [], []⟩
def d__law_is_from : He.DefD := ⟨("_law_is_from", none), "_law_is_from", "_law_is_from", defArgs (top 16), defBody (top 16), defScope (top 16), [], []⟩
def d__law_is_place : He.DefD := ⟨("_law_is_place", none), "_law_is_place", "_law_is_place", defArgs (top 17), defBody (top 17), defScope (top 17), [], []⟩
def d__law_once : He.DefD := ⟨("_law_once", none), "_law_once", "_law_once", defArgs (top 10), defBody (top 10), defScope (top 10), [], []⟩
def d__law_is_shape : He.DefD := ⟨("_law_is_shape", none), "_law_is_shape", "_law_is_shape", defArgs (top 21), defBody (top 21), defScope (top 21), [], []⟩
def d__law_good : He.DefD := ⟨("_law_good", none), "_law_good", "_law_good", defArgs (top 24), defBody (top 24), defScope (top 24), [], []⟩
def d__law_bad_shapes : He.DefD := ⟨("_law_bad_shapes", none), "_law_bad_shapes", "_law_bad_shapes", defArgs (top 22), defBody (top 22), defScope (top 22), [], []⟩
def d_law : He.DefD := ⟨("law", none), "law", "law", defArgs (top 25), defBody (top 25), defScope (top 25), [], []⟩
def fnl0 : List He.DefD := [d__law_mixed, d__law_pile, d__law_take, d__law_order_of, d__law_numbered, d__law_grown, d__law_shape, d_is_whole, d_is_place, d_is_pair, d_reached, d_has_round, d_is_right_shape, d_is_shape, d__law_bent, d__law_whole, d__law_is_from, d__law_is_place, d__law_once, d__law_is_shape, d__law_good, d__law_bad_shapes, d_law]
def fnl : List He.DefD := fnl0
def fal0 : List He.Fa := [.glo "_law_mixed", .glo "_law_pile", .glo "_law_take", .glo "_law_order_of", .glo "_law_numbered", .glo "_law_grown", .glo "_law_shape", .glo "is_whole", .glo "is_place", .glo "is_pair", .glo "reached", .glo "has_round", .glo "is_right_shape", .glo "is_shape", .glo "_law_bent", .glo "_law_whole", .glo "_law_is_from", .glo "_law_is_place", .glo "_law_once", .glo "_law_is_shape", .glo "_law_good", .glo "_law_bad_shapes", .glo "law", .free "all", .free "any", .free "bool", .free "int", .free "isinstance", .free "len", .free "max"]
def fal1 : List He.Fa := [.free "min", .free "range", .free "repr", .free "tuple"]
def fal : List He.Fa := fal0 ++ fal1
def loo0 : List PySem.Str := ["is_whole", "is_place", "is_pair", "reached", "has_round", "is_right_shape", "is_shape", "_law_once", "_law_mixed", "_law_pile", "_law_take", "_law_order_of", "_law_whole", "_law_is_from", "_law_is_place", "_law_shape", "_law_grown", "_law_numbered", "_law_is_shape", "_law_bad_shapes", "_law_bent", "_law_good"]
def loo : List PySem.Str := loo0
abbrev R : PySem.W.OpenRow := PySem.W.OpenLaw.row PySem.Challenge.rw_hastyways_k30_what_is_a_shape
abbrev hk : PySem.W.Hook := He.hookD 4 fal fnl
def ob (s : PySem.W.SharedT) : He.AlD := He.obsDG 4 fal fnl (HandSHeadRun.getT s)
theorem ob_eq (s : PySem.W.SharedT) : ob s = hk.obs s.abs := He.obsDG_eq (HandSHeadRun.getT_eq s)
theorem run (w : World) : HandSHeadRun.RunEq R (PySem.W.view R.prog [25]) hk ob 4000 loo w := by
  intro os
  kernel_rfl
theorem facts {h : Heap} (X : K.In h) (G : h.Ns mainGlobals mg) (c : He.SaysD fal fnl K) : Has P w K mg base "law" p_law 72 F_law_k30 := by
  obtain ⟨fd__law_mixed, U__law_mixed⟩ := c.def_ 0 (d := d__law_mixed) rfl
  have D__law_mixed : Def K mg "_law_mixed" (top 11) := ⟨_, fd__law_mixed, He.glo_ok X G (c.fact 0 (f := .glo "_law_mixed") rfl), U__law_mixed⟩
  obtain ⟨fd__law_pile, U__law_pile⟩ := c.def_ 1 (d := d__law_pile) rfl
  have D__law_pile : Def K mg "_law_pile" (top 12) := ⟨_, fd__law_pile, He.glo_ok X G (c.fact 1 (f := .glo "_law_pile") rfl), U__law_pile⟩
  obtain ⟨fd__law_take, U__law_take⟩ := c.def_ 2 (d := d__law_take) rfl
  have D__law_take : Def K mg "_law_take" (top 13) := ⟨_, fd__law_take, He.glo_ok X G (c.fact 2 (f := .glo "_law_take") rfl), U__law_take⟩
  obtain ⟨fd__law_order_of, U__law_order_of⟩ := c.def_ 3 (d := d__law_order_of) rfl
  have D__law_order_of : Def K mg "_law_order_of" (top 14) := ⟨_, fd__law_order_of, He.glo_ok X G (c.fact 3 (f := .glo "_law_order_of") rfl), U__law_order_of⟩
  obtain ⟨fd__law_numbered, U__law_numbered⟩ := c.def_ 4 (d := d__law_numbered) rfl
  have D__law_numbered : Def K mg "_law_numbered" (top 20) := ⟨_, fd__law_numbered, He.glo_ok X G (c.fact 4 (f := .glo "_law_numbered") rfl), U__law_numbered⟩
  obtain ⟨fd__law_grown, U__law_grown⟩ := c.def_ 5 (d := d__law_grown) rfl
  have D__law_grown : Def K mg "_law_grown" (top 19) := ⟨_, fd__law_grown, He.glo_ok X G (c.fact 5 (f := .glo "_law_grown") rfl), U__law_grown⟩
  obtain ⟨fd__law_shape, U__law_shape⟩ := c.def_ 6 (d := d__law_shape) rfl
  have D__law_shape : Def K mg "_law_shape" (top 18) := ⟨_, fd__law_shape, He.glo_ok X G (c.fact 6 (f := .glo "_law_shape") rfl), U__law_shape⟩
  obtain ⟨fd_is_whole, U_is_whole⟩ := c.def_ 7 (d := d_is_whole) rfl
  have D_is_whole : Def K mg "is_whole" (top 1) := ⟨_, fd_is_whole, He.glo_ok X G (c.fact 7 (f := .glo "is_whole") rfl), U_is_whole⟩
  obtain ⟨fd_is_place, U_is_place⟩ := c.def_ 8 (d := d_is_place) rfl
  have D_is_place : Def K mg "is_place" (top 2) := ⟨_, fd_is_place, He.glo_ok X G (c.fact 8 (f := .glo "is_place") rfl), U_is_place⟩
  obtain ⟨fd_is_pair, U_is_pair⟩ := c.def_ 9 (d := d_is_pair) rfl
  have D_is_pair : Def K mg "is_pair" (top 4) := ⟨_, fd_is_pair, He.glo_ok X G (c.fact 9 (f := .glo "is_pair") rfl), U_is_pair⟩
  obtain ⟨fd_reached, U_reached⟩ := c.def_ 10 (d := d_reached) rfl
  have D_reached : Def K mg "reached" (top 5) := ⟨_, fd_reached, He.glo_ok X G (c.fact 10 (f := .glo "reached") rfl), U_reached⟩
  obtain ⟨fd_has_round, U_has_round⟩ := c.def_ 11 (d := d_has_round) rfl
  have D_has_round : Def K mg "has_round" (top 6) := ⟨_, fd_has_round, He.glo_ok X G (c.fact 11 (f := .glo "has_round") rfl), U_has_round⟩
  obtain ⟨fd_is_right_shape, U_is_right_shape⟩ := c.def_ 12 (d := d_is_right_shape) rfl
  have D_is_right_shape : Def K mg "is_right_shape" (top 7) := ⟨_, fd_is_right_shape, He.glo_ok X G (c.fact 12 (f := .glo "is_right_shape") rfl), U_is_right_shape⟩
  obtain ⟨fd_is_shape, U_is_shape⟩ := c.def_ 13 (d := d_is_shape) rfl
  have D_is_shape : Def K mg "is_shape" (top 8) := ⟨_, fd_is_shape, He.glo_ok X G (c.fact 13 (f := .glo "is_shape") rfl), U_is_shape⟩
  obtain ⟨fd__law_bent, U__law_bent⟩ := c.def_ 14 (d := d__law_bent) rfl
  have D__law_bent : Def K mg "_law_bent" (top 23) := ⟨_, fd__law_bent, He.glo_ok X G (c.fact 14 (f := .glo "_law_bent") rfl), U__law_bent⟩
  obtain ⟨fd__law_whole, U__law_whole⟩ := c.def_ 15 (d := d__law_whole) rfl
  have D__law_whole : Def K mg "_law_whole" (top 15) := ⟨_, fd__law_whole, He.glo_ok X G (c.fact 15 (f := .glo "_law_whole") rfl), U__law_whole⟩
  obtain ⟨fd__law_is_from, U__law_is_from⟩ := c.def_ 16 (d := d__law_is_from) rfl
  have D__law_is_from : Def K mg "_law_is_from" (top 16) := ⟨_, fd__law_is_from, He.glo_ok X G (c.fact 16 (f := .glo "_law_is_from") rfl), U__law_is_from⟩
  obtain ⟨fd__law_is_place, U__law_is_place⟩ := c.def_ 17 (d := d__law_is_place) rfl
  have D__law_is_place : Def K mg "_law_is_place" (top 17) := ⟨_, fd__law_is_place, He.glo_ok X G (c.fact 17 (f := .glo "_law_is_place") rfl), U__law_is_place⟩
  obtain ⟨fd__law_once, U__law_once⟩ := c.def_ 18 (d := d__law_once) rfl
  have D__law_once : Def K mg "_law_once" (top 10) := ⟨_, fd__law_once, He.glo_ok X G (c.fact 18 (f := .glo "_law_once") rfl), U__law_once⟩
  obtain ⟨fd__law_is_shape, U__law_is_shape⟩ := c.def_ 19 (d := d__law_is_shape) rfl
  have D__law_is_shape : Def K mg "_law_is_shape" (top 21) := ⟨_, fd__law_is_shape, He.glo_ok X G (c.fact 19 (f := .glo "_law_is_shape") rfl), U__law_is_shape⟩
  obtain ⟨fd__law_good, U__law_good⟩ := c.def_ 20 (d := d__law_good) rfl
  have D__law_good : Def K mg "_law_good" (top 24) := ⟨_, fd__law_good, He.glo_ok X G (c.fact 20 (f := .glo "_law_good") rfl), U__law_good⟩
  obtain ⟨fd__law_bad_shapes, U__law_bad_shapes⟩ := c.def_ 21 (d := d__law_bad_shapes) rfl
  have D__law_bad_shapes : Def K mg "_law_bad_shapes" (top 22) := ⟨_, fd__law_bad_shapes, He.glo_ok X G (c.fact 21 (f := .glo "_law_bad_shapes") rfl), U__law_bad_shapes⟩
  obtain ⟨fd_law, U_law⟩ := c.def_ 22 (d := d_law) rfl
  have D_law : Def K mg "law" (top 25) := ⟨_, fd_law, He.glo_ok X G (c.fact 22 (f := .glo "law") rfl), U_law⟩
  have m_all : mg "all" = none := He.free_ok X G (c.fact 23 (f := .free "all") rfl)
  have m_any : mg "any" = none := He.free_ok X G (c.fact 24 (f := .free "any") rfl)
  have m_bool : mg "bool" = none := He.free_ok X G (c.fact 25 (f := .free "bool") rfl)
  have m_int : mg "int" = none := He.free_ok X G (c.fact 26 (f := .free "int") rfl)
  have m_isinstance : mg "isinstance" = none := He.free_ok X G (c.fact 27 (f := .free "isinstance") rfl)
  have m_len : mg "len" = none := He.free_ok X G (c.fact 28 (f := .free "len") rfl)
  have m_max : mg "max" = none := He.free_ok X G (c.fact 29 (f := .free "max") rfl)
  have m_min : mg "min" = none := He.free_ok X G (c.fact 30 (f := .free "min") rfl)
  have m_range : mg "range" = none := He.free_ok X G (c.fact 31 (f := .free "range") rfl)
  have m_repr : mg "repr" = none := He.free_ok X G (c.fact 32 (f := .free "repr") rfl)
  have m_tuple : mg "tuple" = none := He.free_ok X G (c.fact 33 (f := .free "tuple") rfl)
  have h__law_mixed : Has P w K mg base "_law_mixed" p__law_mixed 1 F_l_mixed := H__law_mixed D__law_mixed m_int
  have h__law_pile : HasF P w K mg base "_law_pile" p__law_pile 2 F_l_pile := H__law_pile D__law_pile m_int m_len m_range h__law_mixed
  have h__law_take : Has P w K mg base "_law_take" p__law_take 1 F_l_take := H__law_take D__law_take m_int
  have h__law_order_of : Has P w K mg base "_law_order_of" p__law_order_of 2 F_l_order_of := H__law_order_of D__law_order_of m_range h__law_take
  have h__law_numbered : Has P w K mg base "_law_numbered" p__law_numbered 3 F_l_numbered := H__law_numbered D__law_numbered m_len m_tuple h__law_order_of
  have h__law_grown : Has P w K mg base "_law_grown" p__law_grown 2 F_l_grown := H__law_grown D__law_grown m_len m_range m_tuple h__law_take
  have h__law_shape : Has P w K mg base "_law_shape" p__law_shape 3 F_l_shape := H__law_shape D__law_shape m_range m_tuple h__law_take h__law_order_of
  have h_is_whole : Has P w K mg base "is_whole" p_is_whole 1 F_is_whole := H_is_whole D_is_whole m_bool m_int m_isinstance
  have h_is_place : Has P w K mg base "is_place" p_is_place 2 F_is_place := H_is_place D_is_place h_is_whole
  have h_is_pair : Has P w K mg base "is_pair" p_is_pair 3 F_is_pair := H_is_pair D_is_pair m_all m_isinstance m_len m_tuple h_is_place
  have h_reached : Has P w K mg base "reached" p_reached 1 F_reached := H_reached D_reached m_len
  have h_has_round : Has P w K mg base "has_round" p_has_round 2 F_has_round := H_has_round D_has_round m_any h_reached
  have h_is_right_shape : Has P w K mg base "is_right_shape" p_is_right_shape 4 F_is_right_shape := H_is_right_shape D_is_right_shape m_all m_isinstance m_len m_tuple h_is_whole h_is_place h_is_pair h_has_round
  have h_is_shape : Has P w K mg base "is_shape" p_is_shape 5 F_is_shape := H_is_shape D_is_shape h_is_right_shape
  have h__law_bent : Has P w K mg base "_law_bent" p__law_bent 71 (F_l_bent_v2 70) := H__law_bent D__law_bent m_isinstance m_len m_tuple h__law_take 70
  have h__law_whole : Has P w K mg base "_law_whole" p__law_whole 1 F_l_whole := H__law_whole D__law_whole m_bool m_int m_isinstance
  have h__law_is_from : Has P w K mg base "_law_is_from" p__law_is_from 2 F_l_is_from := H__law_is_from D__law_is_from h__law_whole
  have h__law_is_place : Has P w K mg base "_law_is_place" p__law_is_place 3 F_l_is_place := H__law_is_place D__law_is_place h__law_is_from
  have h__law_once : Has P w K mg base "_law_once" p__law_once 1 F_l_once := H__law_once D__law_once
  have h__law_is_shape : Has P w K mg base "_law_is_shape" p__law_is_shape 4 F_l_is_shape := H__law_is_shape D__law_is_shape m_isinstance m_len m_range m_tuple h__law_is_from h__law_is_place h__law_once
  have h__law_good : Has P w K mg base "_law_good" p__law_good 6 F_l_good_v3 := H__law_good D__law_good m_bool m_isinstance m_repr h_is_shape h__law_is_shape
  have h__law_bad_shapes : Has P w K mg base "_law_bad_shapes" p__law_bad_shapes 1 F_l_bad_shapes := H__law_bad_shapes D__law_bad_shapes
  exact H_law D_law m_len m_max m_min m_range h__law_pile h__law_numbered h__law_grown h__law_shape h_is_shape h__law_bent h__law_good h__law_bad_shapes
end L2.HW.R_k30
open PySem PySem.W PySem.Calls PyProof.Rows
theorem PySem.Challenge.cw_hastyways_k30_what_is_a_shape_holds : PySem.Challenge.rw_hastyways_k30_what_is_a_shape.Holds := by
  w_on; o_law
  refine HandSHeadRun.head_any (r := OpenLaw.row PySem.Challenge.rw_hastyways_k30_what_is_a_shape) (q := view (OpenLaw.row PySem.Challenge.rw_hastyways_k30_what_is_a_shape).prog [25]) (H := L2.HW.R_k30.hk) (ob := L2.HW.R_k30.ob) (M := 4000) (loose := L2.HW.R_k30.loo) (d := HandSHeadRun.topDef (OpenLaw.row PySem.Challenge.rw_hastyways_k30_what_is_a_shape).prog 25) (kwd := []) L2.HW.R_k30.ob_eq
    (by kernel_rfl) (fun s => by kernel_rfl) L2.HW.R_k30.run (by kernel_rfl) (by kernel_rfl) (by kernel_rfl) (by rfl) (by first | assumption | decide +kernel) (by decide +kernel) ⟨rfl, rfl, rfl, rfl, rfl, by decide +kernel⟩ ?hw ?hc
  case hw => w_witness2
  case hc =>
    refine L2.HW.walk_hw (l := PySem.Challenge.rw_hastyways_k30_what_is_a_shape) (n := 63) (k := 72) (x := "_law_script") (Fl := L2.HW.F_law_k30) rfl (by decide) (by kernel_rfl) ⟨rfl, by decide, by decide⟩ L2.HW.law_k30 ?F
    intro w mg fa h Y G hmg0
    obtain ⟨K, KX, c⟩ := Y
    have hmg : mg ("law" : PySem.Str) = some (.ref fa) := by
      have e : (HandSHeadRun.topDef (OpenLaw.row PySem.Challenge.rw_hastyways_k30_what_is_a_shape).prog 25).name = ("law" : PySem.Str) := by kernel_rfl
      rw [← e]
      exact hmg0
    exact L2.HW.law_end (fun base => L2.HW.R_k30.facts KX G c) hmg KX
