import PyProof.Rows.All
import HandS.ForMost
import HandS.Exc
import HandS.ExcInit
import HandS.Wide
import HandS.TupAny
import HandS.TupMul
import HandS.TupLe
import HandS.Style
import HandS.Deep
import HandS.Star
import HandS.IsInst
import HandS.SortInts
import HandS.Conv
import HandS.TryOnly
import HandS.More
import HandS.Defaults
import HandS.WordsExc
import HandS.ExcOwn
import HandS.Ends
import HandS.HeadEnd
import HandS.DictComp
import HandS.Iter
import KE.GoesEnum
import HandS.HeadHook1
import HandS.DictTup
import HandS.SortRule
import KE.DataMinMax
import HandS.SortKw
import PyProof.Claim2Refuses
import HandS.Zip
import KE.KExcIs
import HandS.Head2
import HandS.HeadHook2
import KE.DatumOrd
import PySem.Challenge.RW_hastyways_k22_refused_rule
import KE.KStateDown
import HandS.Words
import HandS.Head0
import HandS.Head1
import OpenK.AllK
import Wide.FinOn
set_option Elab.async false
set_option linter.all false
set_option maxRecDepth 100000
namespace L2.HW
open PySem PySem.Spec PyProof.Rows

inductive Va where
  | d (x : PyData)
  | loc (n : Nat)
  | tup (ws : List Va)
  | dct (kvs : List (Int × PyData))
  | exc (c : Str) (f : Option PyData)
  | scr (ns : List Int)
inductive Ob where
  | lst (ws : List Va)
  | di (kvs : List (Int × Va))
  | dt (kvs : List (List Int × Va))
  | ins (c : Str) (fs : List (Str × Va))
abbrev LH := List (Option Ob)
abbrev En := List (Option Va)
inductive Res (α : Type) where
  | ok (a : α) (L : LH)
  | exc (c : Str) (f : Option PyData) (L : LH)
  | stuck
def Res.bind {α β : Type} (r : Res α) (k : α → LH → Res β) : Res β :=
  match r with
  | .ok a L => k a L
  | .exc c f L => .exc c f L
  | .stuck => .stuck
@[simp] theorem Res.bind_ok {α β : Type} (a : α) (L : LH) (k : α → LH → Res β) : (Res.ok a L).bind k = k a L := (rfl)
@[simp] theorem Res.bind_exc {α β : Type} (c : Str) (f : Option PyData) (L : LH) (k : α → LH → Res β) : (Res.exc c f L).bind k = .exc c f L := (rfl)
@[simp] theorem Res.bind_stuck {α β : Type} (k : α → LH → Res β) : (Res.stuck).bind k = .stuck := (rfl)
abbrev EF := En → LH → Res Va

def mask (H : Hp) (P : List Addr) : Hp := fun b => if b ∈ P then none else H b
theorem mask_of {H : Hp} {P : List Addr} {b : Addr} {o : HO} (n : b ∉ P) (e : H b = some o) : mask H P b = some o := by
  unfold mask; rw [if_neg n]; exact e
theorem of_mask {H : Hp} {P : List Addr} {b : Addr} {o : HO} (e : mask H P b = some o) : b ∉ P ∧ H b = some o := by
  unfold mask at e
  split at e
  · cases e
  · exact ⟨by assumption, e⟩
def Le (M M' : Hp) : Prop := ∀ b o, M b = some o → M' b = some o
theorem Le.refl (M : Hp) : Le M M := fun _ _ e => e
theorem Le.trans {A B C : Hp} (h : Le A B) (k : Le B C) : Le A C := fun b o e => k b o (h b o e)
theorem mask_le (H : Hp) (P : List Addr) : Le (mask H P) H := fun _ _ e => (of_mask e).2
theorem Rd.le {M M' : Hp} (h : Le M M') {a : Addr} {u : HO} (r : Rd M a u) : Rd M' a u := by
  rcases r with r | ⟨o, r⟩
  · exact .inl (h _ _ r)
  · exact .inr ⟨o, h _ _ r⟩
theorem SqL.le {K : PySem.W.Frag} {M M' : Hp} (h : Le M M') {a : Addr} {xs : List V} (r : SqL K M a xs) : SqL K M' a xs := by
  rcases r with r | r
  · exact .inl (Rd.le h r)
  · exact .inr r
mutual
/-- v is the data x -/
inductive Dq (M : Hp) : V → PyData → Prop
  | non : Dq M .non .none
  | bl (b : Bool) : Dq M (.bl b) (.bool b)
  | int (i : Int) : Dq M (.int i) (.int i)
  | str (x : Str) : Dq M (.str x) (.str x)
  | lst {a : Addr} {xs : List V} {ds : List PyData} : M a = some (.lst xs) → DqAll M xs ds → Dq M (.ref a) (.list ds)
  | tup {a : Addr} {xs : List V} {ds : List PyData} : M a = some (.tup xs) → DqAll M xs ds → Dq M (.ref a) (.tuple ds)
inductive DqAll (M : Hp) : List V → List PyData → Prop
  | nil : DqAll M [] []
  | cons {v : V} {vs : List V} {d : PyData} {ds : List PyData} : Dq M v d → DqAll M vs ds → DqAll M (v :: vs) (d :: ds)
end
mutual
theorem Dq.le {M M' : Hp} (h : Le M M') : ∀ {v : V} {x : PyData}, Dq M v x → Dq M' v x
  | _, _, .non => .non
  | _, _, .bl b => .bl b
  | _, _, .int i => .int i
  | _, _, .str x => .str x
  | _, _, .lst q r => .lst (h _ _ q) (DqAll.le h r)
  | _, _, .tup q r => .tup (h _ _ q) (DqAll.le h r)
theorem DqAll.le {M M' : Hp} (h : Le M M') : ∀ {vs : List V} {xs : List PyData}, DqAll M vs xs → DqAll M' vs xs
  | _, _, .nil => .nil
  | _, _, .cons a b => .cons (Dq.le h a) (DqAll.le h b)
end
mutual
theorem Dq.dp {K : PySem.W.Frag} {M : Hp} : ∀ {v : V} {x : PyData}, Dq M v x → Dp K M v x
  | _, _, .non => .non
  | _, _, .bl b => .bl b
  | _, _, .int i => .int i
  | _, _, .str x => .str x
  | _, _, .lst q r => .lst (SqL.of q) (DqAll.dp r)
  | _, _, .tup q r => .tup (SqT.of q) (DqAll.dp r)
theorem DqAll.dp {K : PySem.W.Frag} {M : Hp} : ∀ {vs : List V} {xs : List PyData}, DqAll M vs xs → DpAll K M vs xs
  | _, _, .nil => .nil
  | _, _, .cons a b => .cons (Dq.dp a) (DqAll.dp b)
end
theorem DqAll.len {M : Hp} : ∀ {vs : List V} {xs : List PyData}, DqAll M vs xs → vs.length = xs.length
  | _, _, .nil => rfl
  | _, _, .cons _ b => by simp [DqAll.len b]

def exk (e C : Addr) (d : Option Addr) : HO := .ext fun h => ∃ (oe : Obj) (vs : Array Value), h.get? e = some oe ∧ oe.cls = .ref C ∧ oe.dict = d ∧ oe.data = .fields vs
def ExR (mg : Str → Option Value) (M : Hp) (c : Str) (f : Option PyData) (cls : Value) (d : Option Addr) : Prop :=
  ∃ C : Addr, mg c = some (.ref C) ∧ cls = .ref C ∧ match f with
    | none => d = none
    | some x => ∃ dd v, d = some dd ∧ M dd = some (.xd [("spot", v)]) ∧ Dq M v x
theorem ExR.le {mg : Str → Option Value} {M M' : Hp} (h : Le M M') {c : Str} {f : Option PyData} {cls : Value} {d : Option Addr} (r : ExR mg M c f cls d) : ExR mg M' c f cls d := by
  obtain ⟨C, h1, h2, h3⟩ := r
  refine ⟨C, h1, h2, ?_⟩
  cases f with
  | none => exact h3
  | some x =>
    obtain ⟨dd, v, e1, e2, e3⟩ := h3
    exact ⟨dd, v, e1, h _ _ e2, Dq.le h e3⟩

def KDp (M : Hp) : List (Key × V) → List (Int × PyData) → Prop := Paired fun (p : Key × V) (q : Int × PyData) => p.1 = Sum.inl q.1 ∧ Dq M p.2 q.2
theorem Paired.map2 {α β : Type} {F G : α → β → Prop} (h : ∀ a b, F a b → G a b) : ∀ {xs : List α} {ys : List β}, Paired F xs ys → Paired G xs ys
  | _, _, .nil => .nil
  | _, _, .cons a b => .cons (h _ _ a) (Paired.map2 h b)
theorem KDp.le {M M' : Hp} (h : Le M M') {a : List (Key × V)} {b : List (Int × PyData)} (r : KDp M a b) : KDp M' a b :=
  Paired.map2 (fun _ _ q => ⟨q.1, Dq.le h q.2⟩) r

inductive Rp (K : PySem.W.Frag) (mg : Str → Option Value) (M : Hp) (al : List Addr) : V → Va → Prop where
  | d {v : V} {x : PyData} : Dq M v x → Rp K mg M al v (.d x)
  | loc {n : Nat} {a : Addr} : al[n]? = some a → Rp K mg M al (.ref a) (.loc n)
  | tup {a : Addr} {vs : List V} {ws : List Va} : M a = some (.tup vs) → Paired (Rp K mg M al) vs ws → Rp K mg M al (.ref a) (.tup ws)
  | dct {a : Addr} {kvs : List (Key × V)} {ks : List (Int × PyData)} : M a = some (.dK kvs) → KDp M kvs ks → Rp K mg M al (.ref a) (.dct ks)
  | exc {a : Addr} {C : Addr} {c : Str} {f : Option PyData} {d : Option Addr} : M a = some (exk a C d) → ExR mg M c f (.ref C) d → Rp K mg M al (.ref a) (.exc c f)
  | scr {a : Addr} {ns : List Int} : SqL K M a (ns.map V.int) → Rp K mg M al (.ref a) (.scr ns)
end L2.HW
namespace L2.HW
open PySem PySem.Spec PyProof.Rows
section
variable {K : PySem.W.Frag} {mg : Str → Option Value}
abbrev Rps (K : PySem.W.Frag) (mg : Str → Option Value) (M : Hp) (al : List Addr) : List V → List Va → Prop := Paired (Rp K mg M al)
def ALe (al al' : List Addr) : Prop := ∀ (n : Nat) (a : Addr), al[n]? = some a → al'[n]? = some a
theorem ALe.refl (al : List Addr) : ALe al al := fun _ _ e => e
theorem ALe.app (al be : List Addr) : ALe al (al ++ be) := fun n a e => by
  obtain ⟨h, _⟩ := List.getElem?_eq_some_iff.mp e
  rw [List.getElem?_append_left h]; exact e
mutual
theorem Rp.le {M M' : Hp} {al al' : List Addr} (h : Le M M') (ha : ALe al al') : ∀ {v : V} {w : Va}, Rp K mg M al v w → Rp K mg M' al' v w
  | _, _, .d q => .d (Dq.le h q)
  | _, _, .loc e => .loc (ha _ _ e)
  | _, _, .scr q => .scr (SqL.le h q)
  | _, _, .tup q r => .tup (h _ _ q) (Rps.le h ha r)
  | _, _, .dct e q => .dct (h _ _ e) (KDp.le h q)
  | _, _, .exc e q => .exc (h _ _ e) (ExR.le h q)
theorem Rps.le {M M' : Hp} {al al' : List Addr} (h : Le M M') (ha : ALe al al') : ∀ {vs : List V} {ws : List Va}, Rps K mg M al vs ws → Rps K mg M' al' vs ws
  | _, _, .nil => .nil
  | _, _, .cons a b => .cons (Rp.le h ha a) (Rps.le h ha b)
end

def KRp (K : PySem.W.Frag) (mg : Str → Option Value) (M : Hp) (al : List Addr) : List (Key × V) → List (Int × Va) → Prop := Paired fun (p : Key × V) (q : Int × Va) => p.1 = Sum.inl q.1 ∧ Rp K mg M al p.2 q.2
def TRp (K : PySem.W.Frag) (mg : Str → Option Value) (M : Hp) (al : List Addr) : List (List Key × V) → List (List Int × Va) → Prop := Paired fun (p : List Key × V) (q : List Int × Va) => p.1 = q.1.map Sum.inl ∧ Rp K mg M al p.2 q.2
def FRp (K : PySem.W.Frag) (mg : Str → Option Value) (M : Hp) (al : List Addr) : List (Str × V) → List (Str × Va) → Prop := Paired fun (p : Str × V) (q : Str × Va) => p.1 = q.1 ∧ Rp K mg M al p.2 q.2
def ObR (K : PySem.W.Frag) (mg : Str → Option Value) (M : Hp) (al : List Addr) (H : Hp) (a : Addr) : Ob → Prop
  | .lst ws => ∃ vs, H a = some (.lst vs) ∧ Rps K mg M al vs ws
  | .di kvs => ∃ ks, H a = some (.dK ks) ∧ KRp K mg M al ks kvs
  | .dt kvs => ∃ ks, H a = some (.dT ks) ∧ TRp K mg M al ks kvs
  | .ins c fs => ∃ C dx ks, mg c = some (.ref C) ∧ H a = some (.ins C dx ks) ∧ FRp K mg M al ks fs
theorem ObR.le {M M' H H' : Hp} {al al' : List Addr} {a : Addr} (h : Le M M') (ha : ALe al al') (hh : ∀ o, H a = some o → H' a = some o) : ∀ {o : Ob}, ObR K mg M al H a o → ObR K mg M' al' H' a o
  | .lst ws, ⟨vs, e, r⟩ => ⟨vs, hh _ e, Rps.le h ha r⟩
  | .di kvs, ⟨ks, e, r⟩ => ⟨ks, hh _ e, Paired.map2 (fun _ _ q => ⟨q.1, Rp.le h ha q.2⟩) r⟩
  | .dt kvs, ⟨ks, e, r⟩ => ⟨ks, hh _ e, Paired.map2 (fun _ _ q => ⟨q.1, Rp.le h ha q.2⟩) r⟩
  | .ins c fs, ⟨C, dx, ks, e1, e2, r⟩ => ⟨C, dx, ks, e1, hh _ e2, Paired.map2 (fun _ _ q => ⟨q.1, Rp.le h ha q.2⟩) r⟩
theorem ObR.there {M H : Hp} {al : List Addr} {a : Addr} : ∀ {o : Ob}, ObR K mg M al H a o → ∃ u, H a = some u
  | .lst _, ⟨_, e, _⟩ => ⟨_, e⟩
  | .di _, ⟨_, e, _⟩ => ⟨_, e⟩
  | .dt _, ⟨_, e, _⟩ => ⟨_, e⟩
  | .ins _ _, ⟨_, _, _, _, e, _⟩ => ⟨_, e⟩
structure Rel (K : PySem.W.Frag) (mg : Str → Option Value) (H : Hp) (al T : List Addr) (L : LH) : Prop where
  len : al.length = L.length
  nd : al.Nodup
  dis : ∀ a ∈ al, a ∉ T
  trk : ∀ a, a ∈ al ∨ a ∈ T → H a ≠ none
  cell : ∀ (n : Nat) (o : Ob), L[n]? = some (some o) → ∃ a, al[n]? = some a ∧ ObR K mg (mask H (al ++ T)) al H a o
def Alv (al : List Addr) (L : LH) (b : Addr) : Prop := ∃ (n : Nat) (o : Ob), al[n]? = some b ∧ L[n]? = some (some o)
structure Stp (K : PySem.W.Frag) (mg : Str → Option Value) (H : Hp) (al T : List Addr) (L : LH) (H' : Hp) (al' T' : List Addr) (L' : LH) : Prop where
  rel : Rel K mg H' al' T' L'
  ext : ∃ be, al' = al ++ be ∧ ∀ b ∈ be, H b = none
  text : ∃ te, T' = te ++ T ∧ ∀ b ∈ te, H b = none
  frame : ∀ b o, H b = some o → ¬ Alv al L b → H' b = some o
  stay : ∀ b, H b ≠ none → H' b ≠ none
  lck : ∀ (n : Nat), L[n]? = some none → L'[n]? = some none
  alv : ∀ (n : Nat) (o : Ob), L[n]? = some (some o) → ∃ o', L'[n]? = some (some o')
variable {H H1 H2 : Hp} {al al1 al2 T T1 T2 : List Addr} {L L1 L2 : LH}
theorem Alv.mem {b : Addr} (h : Alv al L b) : b ∈ al := let ⟨_, _, e, _⟩ := h; List.mem_of_getElem? e
theorem Stp.ale (s : Stp K mg H al T L H1 al1 T1 L1) : ALe al al1 := by
  obtain ⟨be, e, _⟩ := s.ext
  rw [e]; exact ALe.app al be
theorem Stp.le (s : Stp K mg H al T L H1 al1 T1 L1) : Le (mask H (al ++ T)) (mask H1 (al1 ++ T1)) := fun b o e => by
  obtain ⟨n, e⟩ := of_mask e
  obtain ⟨be, e1, f1⟩ := s.ext
  obtain ⟨te, e2, f2⟩ := s.text
  have nal : b ∉ al := fun z => n (List.mem_append_left _ z)
  have nT : b ∉ T := fun z => n (List.mem_append_right _ z)
  refine mask_of (fun z => ?_) (s.frame b o e fun z => nal z.mem)
  rw [e1, e2] at z
  simp only [List.mem_append] at z
  rcases z with (z | z) | (z | z)
  · exact nal z
  · rw [f1 b z] at e; cases e
  · rw [f2 b z] at e; cases e
  · exact nT z
theorem Stp.rp (s : Stp K mg H al T L H1 al1 T1 L1) {v : V} {w : Va} (r : Rp K mg (mask H (al ++ T)) al v w) : Rp K mg (mask H1 (al1 ++ T1)) al1 v w := Rp.le s.le s.ale r
theorem Stp.rps (s : Stp K mg H al T L H1 al1 T1 L1) {v : List V} {w : List Va} (r : Rps K mg (mask H (al ++ T)) al v w) : Rps K mg (mask H1 (al1 ++ T1)) al1 v w := Rps.le s.le s.ale r
theorem Stp.refl (r : Rel K mg H al T L) : Stp K mg H al T L H al T L :=
  ⟨r, ⟨[], by simp, fun _ z => nomatch z⟩, ⟨[], by simp, fun _ z => nomatch z⟩, fun _ _ e _ => e, fun _ e => e, fun _ e => e, fun _ o e => ⟨o, e⟩⟩
theorem Stp.alvB (s : Stp K mg H al T L H1 al1 T1 L1) (hl : al.length = L.length) {b : Addr} (hb : H b ≠ none) (h : Alv al1 L1 b) : Alv al L b := by
  obtain ⟨n, o, e1, e2⟩ := h
  obtain ⟨be, e, f⟩ := s.ext
  by_cases q : n < al.length
  · have e3 : al[n]? = some b := by rw [e, List.getElem?_append_left q] at e1; exact e1
    have hn : n < L.length := by omega
    cases e4 : L[n] with
    | none =>
      have : L[n]? = some none := by rw [List.getElem?_eq_getElem hn, e4]
      rw [s.lck n this] at e2; cases e2
    | some o' => exact ⟨n, o', e3, by rw [List.getElem?_eq_getElem hn, e4]⟩
  · have : b ∈ be := by
      rw [e, List.getElem?_append_right (by omega)] at e1
      exact List.mem_of_getElem? e1
    exact absurd (f b this) hb
theorem Stp.trans (hl : al.length = L.length) (s : Stp K mg H al T L H1 al1 T1 L1) (t : Stp K mg H1 al1 T1 L1 H2 al2 T2 L2) : Stp K mg H al T L H2 al2 T2 L2 := by
  obtain ⟨be1, e1, f1⟩ := s.ext
  obtain ⟨be2, e2, f2⟩ := t.ext
  obtain ⟨te1, e3, f3⟩ := s.text
  obtain ⟨te2, e4, f4⟩ := t.text
  have back : ∀ b, H1 b = none → H b = none := fun b z => by
    cases e : H b with
    | none => rfl
    | some o => exact absurd z (s.stay b (by rw [e]; simp))
  refine ⟨t.rel, ⟨be1 ++ be2, by rw [e2, e1, List.append_assoc], fun b hb => ?_⟩, ⟨te2 ++ te1, by rw [e4, e3, List.append_assoc], fun b hb => ?_⟩, fun b o e n => ?_, fun b e => t.stay b (s.stay b e), fun n e => t.lck n (s.lck n e), fun n o e => ?_⟩
  · rcases List.mem_append.mp hb with z | z
    · exact f1 b z
    · exact back b (f2 b z)
  · rcases List.mem_append.mp hb with z | z
    · exact back b (f4 b z)
    · exact f3 b z
  · have h1 := s.frame b o e n
    exact t.frame b o h1 fun z => n (s.alvB hl (by rw [e]; simp) z)
  · obtain ⟨o', e'⟩ := s.alv n o e
    exact t.alv n o' e'
theorem Stp.drop {te : List Addr} (hte : ∀ b ∈ te, H b = none) (s : Stp K mg H al T L H1 al1 (te ++ T) L1) : Stp K mg H al T L H1 al1 T L1 := by
  have r := s.rel
  have m : Le (mask H1 (al1 ++ (te ++ T))) (mask H1 (al1 ++ T)) := fun b o e => by
    obtain ⟨n, e⟩ := of_mask e
    exact mask_of (fun z => n (by simp only [List.mem_append] at z ⊢; rcases z with z | z; exact .inl z; exact .inr (.inr z))) e
  refine ⟨⟨r.len, r.nd, fun a h z => r.dis a h (List.mem_append_right _ z), fun a h => r.trk a (h.imp id fun z => List.mem_append_right _ z), fun n o e => ?_⟩, s.ext, ⟨[], by simp, fun _ z => nomatch z⟩, s.frame, s.stay, s.lck, s.alv⟩
  obtain ⟨a, e1, q⟩ := r.cell n o e
  exact ⟨a, e1, ObR.le m (ALe.refl _) (fun _ e => e) q⟩
end

structure Conf (K : PySem.W.Frag) (mg : Str → Option Value) (σ : St) (H : Hp) (env : En) (L : LH) (al T : List Addr) : Prop where
  rel : Rel K mg H al T L
  len : σ.length = env.length
  slot : ∀ (i : Nat) (w : Va), env[i]? = some (some w) → ∃ v, σ[i]? = some (some v) ∧ Rp K mg (mask H (al ++ T)) al v w
theorem Conf.stp {K : PySem.W.Frag} {mg : Str → Option Value} {σ : St} {H H' : Hp} {env : En} {L L' : LH} {al al' T T' : List Addr} (c : Conf K mg σ H env L al T) (s : Stp K mg H al T L H' al' T' L') : Conf K mg σ H' env L' al' T' :=
  ⟨s.rel, c.len, fun i w e => let ⟨v, h1, h2⟩ := c.slot i w e; ⟨v, h1, s.rp h2⟩⟩
theorem Conf.put {K : PySem.W.Frag} {mg : Str → Option Value} {σ : St} {H : Hp} {env : En} {L : LH} {al T : List Addr} (c : Conf K mg σ H env L al T) {i : Nat} {v : V} {w : Va} (r : Rp K mg (mask H (al ++ T)) al v w) : Conf K mg (σ.set i (some v)) H (env.set i (some w)) L al T :=
  ⟨c.rel, by simpa using c.len, fun j u e => by
    by_cases h : i = j
    · subst h
      have hi : i < env.length := by
        by_cases q : i < env.length
        · exact q
        · rw [List.getElem?_eq_none (by simpa using q)] at e; cases e
      rw [List.getElem?_set_self hi] at e
      cases e
      exact ⟨v, List.getElem?_set_self (by rw [c.len]; exact hi), r⟩
    · rw [List.getElem?_set_ne h] at e ⊢
      exact c.slot j u e⟩
def Agr (sl : List Nat) (σ σ' : St) : Prop := σ'.length = σ.length ∧ ∀ j, j ∉ sl → σ'[j]? = σ[j]?
theorem Agr.refl (sl : List Nat) (σ : St) : Agr sl σ σ := ⟨rfl, fun _ _ => rfl⟩
theorem Agr.trans {sl sl' : List Nat} {a b c : St} (h : Agr sl a b) (k : Agr sl' b c) : Agr (sl ++ sl') a c := ⟨k.1.trans h.1, fun j hj => (k.2 j fun z => hj (List.mem_append_right _ z)).trans (h.2 j fun z => hj (List.mem_append_left _ z))⟩
theorem Agr.put (i : Nat) (v : Option V) (σ : St) : Agr [i] σ (σ.set i v) := ⟨by simp, fun j hj => by rw [List.getElem?_set_ne]; intro z; exact hj (by simp [z])⟩
end L2.HW
namespace L2.HW
open PySem PySem.Spec PyProof.Rows

def GPost (X : Cx) (Wx : WX) (σ : St) (H : Hp) (al T : List Addr) (L : LH) {α β : Type} (R : Hp → List Addr → β → α → Prop) (r : Res α) (Q : β → Hp → Prop) : Prop :=
  match r with
  | .ok a L' => ∀ b H' al', Stp X.K X.mg H al T L H' al' T L' → R (mask H' (al' ++ T)) al' b a → Q b H'
  | .exc c f L' => ∀ cls d H' al', Stp X.K X.mg H al T L H' al' T L' → ExR X.mg (mask H' (al' ++ T)) c f cls d → Wx cls d σ H'
  | .stuck => False
abbrev RV (X : Cx) : Hp → List Addr → V → Va → Prop := Rp X.K X.mg
abbrev RVs (X : Cx) : Hp → List Addr → List V → List Va → Prop := Rps X.K X.mg
def RB : Hp → List Addr → Bool → Bool → Prop := fun _ _ b a => b = a
def RO : Hp → List Addr → Option Int → Option Int → Prop := fun _ _ b a => b = a
def Rdg (X : Cx) (Wx : WX) {α β : Type} (R : Hp → List Addr → β → α → Prop) (f : En → LH → Res α) : St → Hp → (β → Hp → Prop) → Prop :=
  fun σ H Q => ∃ env L al T, Conf X.K X.mg σ H env L al T ∧ GPost X Wx σ H al T L R (f env L) Q
def SE (X : Cx) (Wx : WX) (e : Expr) (f : EF) : Prop := PE X e (Rdg X Wx (RV X) f)
def ST (X : Cx) (Wx : WX) (e : Expr) (f : En → LH → Res Bool) : Prop := PT X e (Rdg X Wx RB f)
def SW (X : Cx) (Wx : WX) (e : Expr) (f : En → LH → Res Bool) : Prop := PW X e (Rdg X Wx RB f)
def SA (X : Cx) (Wx : WX) (es : List Expr) (f : En → LH → Res (List Va)) : Prop := PA X es (Rdg X Wx (RVs X) f)
theorem PE.imp {X : Cx} {e : Expr} {t t' : TE} (h : PE X e t) (k : ∀ σ H Q, t' σ H Q → t σ H Q) : PE X e t' := ⟨fun pins s σ H Q I q => h.run pins s σ H Q I (k σ H Q q)⟩
theorem PT.imp {X : Cx} {e : Expr} {t t' : TT} (h : PT X e t) (k : ∀ σ H Q, t' σ H Q → t σ H Q) : PT X e t' := ⟨fun pins s σ H Q I q => h.run pins s σ H Q I (k σ H Q q)⟩
theorem PW.imp {X : Cx} {e : Expr} {t t' : TT} (h : PW X e t) (k : ∀ σ H Q, t' σ H Q → t σ H Q) : PW X e t' := ⟨fun w pins s σ H Q I q => h.run w pins s σ H Q I (k σ H Q q)⟩
theorem PA.imp {X : Cx} {e : List Expr} {t t' : TA} (h : PA X e t) (k : ∀ σ H Q, t' σ H Q → t σ H Q) : PA X e t' := ⟨fun pos pins s σ H Q I q => h.run pos pins s σ H Q I (k σ H Q q)⟩
theorem PS.imp {X : Cx} {e : Stmt} {t t' : TS} (h : PS X e t) (k : ∀ D σ H, t' D σ H → t D σ H) : PS X e t' := ⟨fun pins s σ H D I q => h.run pins s σ H D I (k D σ H q)⟩
theorem PSs.imp {X : Cx} {e : List Stmt} {t t' : TS} (h : PSs X e t) (k : ∀ D σ H, t' D σ H → t D σ H) : PSs X e t' := ⟨fun pins s σ H D I q => h.run pins s σ H D I (k D σ H q)⟩

section
variable {X : Cx} {Wx : WX} {σ : St} {H H1 : Hp} {al al1 T : List Addr} {L L1 : LH} {α β γ δ : Type} {R : Hp → List Addr → β → α → Prop} {S : Hp → List Addr → δ → γ → Prop}
theorem GPost.on (hl : al.length = L.length) (s : Stp X.K X.mg H al T L H1 al1 T L1) {r : Res α} {Q : β → Hp → Prop} (h : GPost X Wx σ H al T L R r Q) : GPost X Wx σ H1 al1 T L1 R r Q := by
  cases r with
  | ok a L' => exact fun b H' al' t q => h b H' al' (Stp.trans hl s t) q
  | exc c f L' => exact fun cls d H' al' t q => h cls d H' al' (Stp.trans hl s t) q
  | stuck => exact h
theorem gbind {f : Res α} {k : α → LH → Res γ} {Q : δ → Hp → Prop} (hl : al.length = L.length) (h : GPost X Wx σ H al T L S (f.bind k) Q) :
    GPost X Wx σ H al T L R f (fun b H1 => ∃ a L1 al1, Stp X.K X.mg H al T L H1 al1 T L1 ∧ R (mask H1 (al1 ++ T)) al1 b a ∧ GPost X Wx σ H1 al1 T L1 S (k a L1) Q) := by
  cases f with
  | ok a L' => exact fun b H' al' s q => ⟨a, L', al', s, q, GPost.on hl s h⟩
  | exc c f L' => exact h
  | stuck => exact h
theorem rbind {env : En} {f : En → LH → Res α} {k : α → LH → Res γ} {Q : δ → Hp → Prop} (c : Conf X.K X.mg σ H env L al T) (h : GPost X Wx σ H al T L S ((f env L).bind k) Q) :
    Rdg X Wx R f σ H (fun b H1 => ∃ a L1 al1, Conf X.K X.mg σ H1 env L1 al1 T ∧ Stp X.K X.mg H al T L H1 al1 T L1 ∧ R (mask H1 (al1 ++ T)) al1 b a ∧ GPost X Wx σ H1 al1 T L1 S (k a L1) Q) := by
  refine ⟨env, L, al, T, c, ?_⟩
  have g := gbind (R := R) c.rel.len h
  revert g
  generalize f env L = r
  intro g
  cases r with
  | ok a L' => exact fun b H' al' s q => let ⟨a, L1, al1, s1, q1, g1⟩ := g b H' al' s q; ⟨a, L1, al1, c.stp s1, s1, q1, g1⟩
  | exc c f L' => exact g
  | stuck => exact g
theorem gok (r : Rel X.K X.mg H al T L) {a : α} {b : β} {Q : β → Hp → Prop} (h : GPost X Wx σ H al T L R (.ok a L) Q) (q : R (mask H (al ++ T)) al b a) : Q b H := h b H al (Stp.refl r) q

def eVar (i : Nat) : EF := fun env L => match env[i]? with
  | some (some w) => .ok w L
  | _ => .stuck
theorem se_var {i : Nat} {x : Str} {pos : Pos} (hN : X.N[i]? = some x) (hv : Vis X.env.scope x) (hd : (x == ("__debug__" : Str)) = false := by decide) (hcd : (x == ("__classdict__" : Str)) = false := by decide) : SE X Wx (.Name x pos) (eVar i) := by
  refine PE.imp (pe_var hN hv hd hcd) ?_
  rintro σ H Q ⟨env, L, al, T, c, h⟩
  unfold eVar at h
  cases e : env[i]? with
  | none => rw [e] at h; exact h.elim
  | some o =>
    cases o with
    | none => rw [e] at h; exact h.elim
    | some w =>
      rw [e] at h
      obtain ⟨v, h1, h2⟩ := c.slot i w e
      exact ⟨v, h1, gok c.rel h h2⟩
def eC (x : PyData) : EF := fun _ L => .ok (.d x) L
theorem se_int {i : Int} {j : Nat} {pos : Pos} : SE X Wx (.Constant (.int i) j pos) (eC (.int i)) := PE.imp pe_int fun σ H Q ⟨env, L, al, T, c, h⟩ => gok c.rel h (.d (.int i))
theorem se_bl {b : Bool} {j : Nat} {pos : Pos} : SE X Wx (.Constant (.bool b) j pos) (eC (.bool b)) := PE.imp pe_bl fun σ H Q ⟨env, L, al, T, c, h⟩ => gok c.rel h (.d (.bl b))
theorem se_non {j : Nat} {pos : Pos} : SE X Wx (.Constant .none j pos) (eC .none) := PE.imp pe_non fun σ H Q ⟨env, L, al, T, c, h⟩ => gok c.rel h (.d .non)
theorem se_str {x : Str} {j : Nat} {pos : Pos} : SE X Wx (.Constant (.str x) j pos) (eC (.str x)) := PE.imp pe_str fun σ H Q ⟨env, L, al, T, c, h⟩ => gok c.rel h (.d (.str x))
abbrev Op2 := Va → Va → LH → Res Va
def Ok2 (X : Cx) (r : R2) (g : Op2) : Prop := ∀ (Wx : WX) (σ : St) (H : Hp) (al T : List Addr) (L : LH) (x y : V) (w u : Va) (Q : VK), Rel X.K X.mg H al T L → RV X (mask H (al ++ T)) al x w → RV X (mask H (al ++ T)) al y u →
  GPost X Wx σ H al T L (RV X) (g w u L) Q → r x y H Q
def eOp (g : Op2) (a b : EF) : EF := fun env L => (a env L).bind fun w L1 => (b env L1).bind fun u L2 => g w u L2
variable {a b c : Expr} {fa fb fc : EF} {pos : Pos}
theorem op_core {g : Op2} {r : R2} (o : Ok2 X r g) {σ : St} {H : Hp} {Q : VK} (h : Rdg X Wx (RV X) (eOp g fa fb) σ H Q) : tOp r (Rdg X Wx (RV X) fa) (Rdg X Wx (RV X) fb) σ H Q := by
  obtain ⟨env, L, al, T, c, h⟩ := h
  obtain ⟨env', L', al', T', c', h'⟩ := rbind (R := RV X) c h
  refine ⟨env', L', al', T', c', ?_⟩
  revert h'
  generalize fa env' L' = r1
  intro h'
  cases r1 with
  | stuck => exact h'
  | exc c f L1 => exact h'
  | ok w L1 =>
    intro v H1 al1 s1 q1
    obtain ⟨w2, L2, al2, c2, s2, q2, h2⟩ := h' v H1 al1 s1 q1
    obtain ⟨env3, L3, al3, T3, c3, h3⟩ := rbind (R := RV X) c2 h2
    refine ⟨env3, L3, al3, T3, c3, ?_⟩
    revert h3
    generalize fb env3 L3 = r2
    intro h3
    cases r2 with
    | stuck => exact h3
    | exc c f L4 => exact h3
    | ok u L4 =>
      intro v2 H4 al4 s4 q4
      obtain ⟨u5, L5, al5, c5, s5, q5, h5⟩ := h3 v2 H4 al4 s4 q4
      exact o Wx σ H4 al5 T L5 v v2 w2 u5 Q c5.rel (s5.rp q2) q5 h5
theorem se_op {op : Operator} {r : R2} {g : Op2} (ho : OpR X (binaryOp op) r) (o : Ok2 X r g) (ha : SE X Wx a fa) (hb : SE X Wx b fb) : SE X Wx (.BinOp a op b pos) (eOp g fa fb) :=
  PE.imp (pe_op ho ha hb) fun _ _ _ h => op_core o h
theorem se_cmp {op : CmpOp} {r : R2} {g : Op2} (ho : OpR X (compareOp op) r) (o : Ok2 X r g) (ha : SE X Wx a fa) (hb : SE X Wx b fb) (hm : behindInMarks op b = false) : SE X Wx (.Compare a [op] [b] pos) (eOp g fa fb) :=
  PE.imp (pe_cmpR ho ha hb hm) fun _ _ _ h => op_core o h
theorem Ok2.or {r r' : R2} {g : Op2} (h : ∀ (Wx : WX) (σ : St) (H : Hp) (al T : List Addr) (L : LH) (x y : V) (w u : Va) (Q : VK), Rel X.K X.mg H al T L → RV X (mask H (al ++ T)) al x w → RV X (mask H (al ++ T)) al y u →
  GPost X Wx σ H al T L (RV X) (g w u L) Q → r x y H Q ∨ r' x y H Q) : Ok2 X (fun x y H Q => r x y H Q ∨ r' x y H Q) g := h

def tVal (f : EF) : En → LH → Res Bool := fun env L => (f env L).bind fun w L1 => match w with
  | .d (.bool b) => .ok b L1
  | _ => .stuck
theorem val_core {f : EF} {σ : St} {H : Hp} {Q : Bool → Hp → Prop} (h : Rdg X Wx RB (tVal f) σ H Q) : tB (Rdg X Wx (RV X) f) σ H Q := by
  obtain ⟨env, L, al, T, c, h⟩ := h
  obtain ⟨env', L', al', T', c', h'⟩ := rbind (R := RV X) c h
  refine ⟨env', L', al', T', c', ?_⟩
  revert h'
  generalize f env' L' = r1
  intro h'
  cases r1 with
  | stuck => exact h'
  | exc c f L1 => exact h'
  | ok w L1 =>
    intro v H1 al1 s1 q1
    obtain ⟨w2, L2, al2, c2, s2, q2, h2⟩ := h' v H1 al1 s1 q1
    match w2, q2, h2 with
    | .d (.bool b), .d (.bl _), h2 => exact ⟨b, rfl, gok c2.rel h2 rfl⟩
    | .d .none, _, h2 => exact h2.elim
    | .d (.int _), _, h2 => exact h2.elim
    | .d (.str _), _, h2 => exact h2.elim
    | .d (.list _), _, h2 => exact h2.elim
    | .d (.tuple _), _, h2 => exact h2.elim
    | .d (.dict _), _, h2 => exact h2.elim
    | .loc _, _, h2 => exact h2.elim
    | .tup _, _, h2 => exact h2.elim
    | .dct _, _, h2 => exact h2.elim
    | .exc _ _, _, h2 => exact h2.elim
    | .scr _, _, h2 => exact h2.elim
theorem st_val (ha : SE X Wx a fa) (he : ∀ whole, isTrue a X.env whole = (do let v ← whole; standAt a.pos; holding [v] (truthy v)) := by intro _; rfl) : ST X Wx a (tVal fa) :=
  PT.imp (pt_val ha he) fun _ _ _ h => val_core h
theorem st_cmp {op : CmpOp} {r : R2} {g : Op2} (ho : OpR X (compareOp op) r) (o : Ok2 X r g) (ha : SE X Wx a fa) (hb : SE X Wx b fb) (hm : behindInMarks op b = false) : ST X Wx (.Compare a [op] [b] pos) (tVal (eOp g fa fb)) :=
  PT.imp (pt_cmpR ho ha hb hm) fun σ H Q h => by
    have := val_core h
    obtain ⟨env, L, al, T, c, k⟩ := this
    exact op_core o ⟨env, L, al, T, c, k⟩
variable {ta tb : En → LH → Res Bool} {rest : List Expr}
def tAndF (f g : En → LH → Res Bool) : En → LH → Res Bool := fun env L => (f env L).bind fun b L1 => if b then g env L1 else .ok false L1
def tOrF (f g : En → LH → Res Bool) : En → LH → Res Bool := fun env L => (f env L).bind fun b L1 => if b then .ok true L1 else g env L1
def tNotF (f : En → LH → Res Bool) : En → LH → Res Bool := fun env L => (f env L).bind fun b L1 => .ok (!b) L1
theorem two_core {f : En → LH → Res Bool} {k : Bool → LH → Res α} {σ : St} {H : Hp} {Q : β → Hp → Prop} {Q' : Bool → Hp → Prop} {env : En} {L : LH} {al T : List Addr} (c : Conf X.K X.mg σ H env L al T)
    (h : GPost X Wx σ H al T L R ((f env L).bind k) Q) (hk : ∀ b H1 L1 al1, Conf X.K X.mg σ H1 env L1 al1 T → GPost X Wx σ H1 al1 T L1 R (k b L1) Q → Q' b H1) : Rdg X Wx RB f σ H Q' := by
  refine ⟨env, L, al, T, c, ?_⟩
  have g := gbind (R := RB) c.rel.len h
  revert g
  generalize f env L = r
  intro g
  cases r with
  | stuck => exact g
  | exc c f L1 => exact g
  | ok b L1 =>
    intro b' H1 al1 s1 q1
    obtain ⟨a, L2, al2, s2, q2, g2⟩ := g b' H1 al1 s1 q1
    cases (show b' = a from q2)
    exact hk b' H1 L2 al2 (c.stp s2) g2
theorem sw_and1 (ha : ST X Wx a ta) : SW X Wx (.BoolOp .And [a] pos) ta := pw_and1 ha
theorem sw_or1 (ha : ST X Wx a ta) : SW X Wx (.BoolOp .Or [a] pos) ta := pw_or1 ha
theorem sw_and (ha : ST X Wx a ta) (hb : SW X Wx (.BoolOp .And (b :: rest) pos) tb) : SW X Wx (.BoolOp .And (a :: b :: rest) pos) (tAndF ta tb) :=
  PW.imp (pw_and ha hb) fun σ H Q ⟨env, L, al, T, c, h⟩ => two_core c h fun b H1 L1 al1 c1 g => by
    cases b with
    | true => exact ⟨env, L1, al1, T, c1, g⟩
    | false => exact gok c1.rel g rfl
theorem sw_or (ha : ST X Wx a ta) (hb : SW X Wx (.BoolOp .Or (b :: rest) pos) tb) : SW X Wx (.BoolOp .Or (a :: b :: rest) pos) (tOrF ta tb) :=
  PW.imp (pw_or ha hb) fun σ H Q ⟨env, L, al, T, c, h⟩ => two_core c h fun b H1 L1 al1 c1 g => by
    cases b with
    | false => exact ⟨env, L1, al1, T, c1, g⟩
    | true => exact gok c1.rel g rfl
theorem st_w (h : SW X Wx a ta) : ST X Wx a ta := PW.pt h
theorem st_not (ha : ST X Wx a ta) : ST X Wx (.UnaryOp .Not a pos) (tNotF ta) :=
  PT.imp (pt_not ha) fun σ H Q ⟨env, L, al, T, c, h⟩ => two_core c h fun b H1 L1 al1 c1 g => gok c1.rel g rfl
def eIf (t : En → LH → Res Bool) (f g : EF) : EF := fun env L => (t env L).bind fun b L1 => if b then f env L1 else g env L1
theorem se_ifExp (hc : ST X Wx c tb) (ha : SE X Wx a fa) (hb : SE X Wx b fb) : SE X Wx (.IfExp c a b pos) (eIf tb fa fb) :=
  PE.imp (pe_ifExp hc ha hb) fun σ H Q ⟨env, L, al, T, c, h⟩ => two_core c h fun b H1 L1 al1 c1 g => by
    cases b with
    | false => exact ⟨env, L1, al1, T, c1, g⟩
    | true => exact ⟨env, L1, al1, T, c1, g⟩
def eAnd (f g : EF) : EF := fun env L => (tVal f env L).bind fun b L1 => if b then g env L1 else .ok (.d (.bool false)) L1
def eOr (f g : EF) : EF := fun env L => (tVal f env L).bind fun b L1 => if b then .ok (.d (.bool true)) L1 else g env L1
def eNot (f : EF) : EF := fun env L => (tVal f env L).bind fun b L1 => .ok (.d (.bool (!b))) L1
theorem se_one {op : BoolOp} (h : SE X Wx a fa) : SE X Wx (.BoolOp op [a] pos) fa := pe_one h
theorem valc {f : EF} {k : Bool → LH → Res α} {σ : St} {H : Hp} {Q : β → Hp → Prop} {Q' : Bool → Hp → Prop} {env : En} {L : LH} {al T : List Addr} (c : Conf X.K X.mg σ H env L al T)
    (h : GPost X Wx σ H al T L R ((tVal f env L).bind k) Q) (hk : ∀ b H1 L1 al1, Conf X.K X.mg σ H1 env L1 al1 T → GPost X Wx σ H1 al1 T L1 R (k b L1) Q → Q' b H1) : tB (Rdg X Wx (RV X) f) σ H Q' := val_core (two_core c h hk)
theorem se_and (ha : SE X Wx a fa) (hb : SE X Wx (.BoolOp .And (b :: rest) pos) fb) : SE X Wx (.BoolOp .And (a :: b :: rest) pos) (eAnd fa fb) :=
  PE.imp (pe_and ha hb) fun σ H Q ⟨env, L, al, T, c, h⟩ => by
    obtain ⟨env', L', al', T', c', h'⟩ := valc (Q' := fun b H1 => if b = true then Rdg X Wx (RV X) fb σ H1 Q else Q (.bl false) H1) c h fun b H1 L1 al1 c1 g => by
      cases b with
      | true => exact ⟨env, L1, al1, T, c1, g⟩
      | false => exact gok c1.rel g (.d (.bl false))
    exact ⟨env', L', al', T', c', h'⟩
theorem se_not (ha : SE X Wx a fa) : SE X Wx (.UnaryOp .Not a pos) (eNot fa) :=
  PE.imp (pe_not ha) fun σ H Q ⟨env, L, al, T, c, h⟩ => by
    obtain ⟨env', L', al', T', c', h'⟩ := valc (Q' := fun b H1 => Q (.bl (!b)) H1) c h fun b H1 L1 al1 c1 g => gok c1.rel g (.d (.bl (!b)))
    exact ⟨env', L', al', T', c', h'⟩
def aNil : En → LH → Res (List Va) := fun _ L => .ok [] L
def aCons (f : EF) (g : En → LH → Res (List Va)) : En → LH → Res (List Va) := fun env L => (f env L).bind fun w L1 => (g env L1).bind fun ws L2 => .ok (w :: ws) L2
theorem sa_nil : SA X Wx [] aNil := PA.imp pa_nil fun σ H Q ⟨env, L, al, T, c, h⟩ => gok c.rel h .nil
theorem sa_cons {e : Expr} {es : List Expr} {fe : EF} {fs : En → LH → Res (List Va)} (ha : SE X Wx e fe) (hr : SA X Wx es fs) (hs : starEach (e :: es) X.env = (false, eval e X.env) :: starEach es X.env := by rfl) : SA X Wx (e :: es) (aCons fe fs) := by
  refine PA.imp (pa_cons ha hr hs) ?_
  rintro σ H Q ⟨env, L, al, T, c, h⟩
  obtain ⟨env', L', al', T', c', h'⟩ := rbind (R := RV X) c h
  refine ⟨env', L', al', T', c', ?_⟩
  revert h'
  generalize fe env' L' = r1
  intro h'
  cases r1 with
  | stuck => exact h'
  | exc c f L1 => exact h'
  | ok w L1 =>
    intro v H1 al1 s1 q1
    obtain ⟨w2, L2, al2, c2, s2, q2, h2⟩ := h' v H1 al1 s1 q1
    obtain ⟨env3, L3, al3, T3, c3, h3⟩ := rbind (R := RVs X) c2 h2
    refine ⟨env3, L3, al3, T3, c3, ?_⟩
    revert h3
    generalize fs env3 L3 = r2
    intro h3
    cases r2 with
    | stuck => exact h3
    | exc c f L4 => exact h3
    | ok u L4 =>
      intro v2 H4 al4 s4 q4
      obtain ⟨u5, L5, al5, c5, s5, q5, h5⟩ := h3 v2 H4 al4 s4 q4
      exact gok c5.rel h5 (.cons (s5.rp q2) q5)
end
end L2.HW
namespace L2.HW
open PySem PySem.Spec PyProof.Rows
theorem rseq {X : Cx} {Wx : WX} {σ : St} {H : Hp} {al T : List Addr} {L : LH} {α β γ δ : Type} {R : Hp → List Addr → β → α → Prop} {S : Hp → List Addr → δ → γ → Prop} {env : En} {f : En → LH → Res α} {k : α → LH → Res γ} {Q : δ → Hp → Prop} {Q' : β → Hp → Prop}
    (c : Conf X.K X.mg σ H env L al T) (h : GPost X Wx σ H al T L S ((f env L).bind k) Q)
    (hk : ∀ b H1 a L1 al1, Conf X.K X.mg σ H1 env L1 al1 T → Stp X.K X.mg H al T L H1 al1 T L1 → R (mask H1 (al1 ++ T)) al1 b a → GPost X Wx σ H1 al1 T L1 S (k a L1) Q → Q' b H1) : Rdg X Wx R f σ H Q' := by
  refine ⟨env, L, al, T, c, ?_⟩
  have g := gbind (R := R) c.rel.len h
  revert g
  generalize f env L = r
  intro g
  cases r with
  | stuck => exact g
  | exc c f L1 => exact g
  | ok b L1 =>
    intro b' H1 al1 s1 q1
    obtain ⟨a, L2, al2, s2, q2, g2⟩ := g b' H1 al1 s1 q1
    exact hk b' H1 a L2 al2 (c.stp s2) s2 q2 g2
section
variable {K : PySem.W.Frag} {mg : Str → Option Value} {H : Hp} {al T : List Addr} {L : LH} {p : Addr} {o : HO}
theorem mask_eq {H : Hp} {P P' : List Addr} (h : ∀ b, b ∈ P ↔ b ∈ P') : mask H P = mask H P' := by
  funext b
  unfold mask
  by_cases q : b ∈ P
  · rw [if_pos q, if_pos ((h b).mp q)]
  · rw [if_neg q, if_neg fun z => q ((h b).mpr z)]
theorem Rel.fresh (r : Rel K mg H al T L) (hp : H p = none) : p ∉ al ∧ p ∉ T := ⟨fun z => r.trk p (.inl z) hp, fun z => r.trk p (.inr z) hp⟩
theorem upd_of {b : Addr} {u : HO} (hp : H p = none) (e : H b = some u) : upd H p o b = some u := by
  rw [upd_ne (ne_of_none e hp)]; exact e
theorem mask_upd (hp : H p = none) (P : List Addr) : Le (mask H P) (mask (upd H p o) P) := fun b u e => by
  obtain ⟨n, e⟩ := of_mask e
  exact mask_of n (upd_of hp e)
theorem Rel.alloc (r : Rel K mg H al T L) (hp : H p = none) : Stp K mg H al T L (upd H p o) al T L := by
  refine ⟨⟨r.len, r.nd, r.dis, fun a h => ?_, fun n ob e => ?_⟩, ⟨[], by simp, fun _ z => nomatch z⟩, ⟨[], by simp, fun _ z => nomatch z⟩, fun b u e _ => upd_of hp e, fun b e => ?_, fun _ e => e, fun _ ob e => ⟨ob, e⟩⟩
  · have := r.trk a h
    intro z
    apply this
    cases q : H a with
    | none => rfl
    | some u => rw [upd_of hp q] at z; cases z
  · obtain ⟨a, e1, q⟩ := r.cell n ob e
    exact ⟨a, e1, ObR.le (mask_upd hp _) (ALe.refl _) (fun _ z => upd_of hp z) q⟩
  · intro z
    apply e
    cases q : H b with
    | none => rfl
    | some u => rw [upd_of hp q] at z; cases z
theorem Rel.allocT (r : Rel K mg H al T L) (hp : H p = none) : Stp K mg H al T L (upd H p o) al (p :: T) L := by
  have s := r.alloc (o := o) hp
  obtain ⟨n1, n2⟩ := r.fresh hp
  have m : Le (mask H (al ++ T)) (mask (upd H p o) (al ++ (p :: T))) := fun b u e => by
    obtain ⟨n, e⟩ := of_mask e
    refine mask_of (fun z => ?_) (upd_of hp e)
    simp only [List.mem_append, List.mem_cons] at z n
    rcases z with z | z | z
    · exact n (.inl z)
    · rw [z, hp] at e; cases e
    · exact n (.inr z)
  refine ⟨⟨r.len, r.nd, fun a h z => ?_, fun a h => ?_, fun n ob e => ?_⟩, s.ext, ⟨[p], rfl, fun b z => ?_⟩, s.frame, s.stay, s.lck, s.alv⟩
  · rcases List.mem_cons.mp z with z | z
    · exact n1 (z ▸ h)
    · exact r.dis a h z
  · rcases h with h | h
    · exact s.rel.trk a (.inl h)
    · rcases List.mem_cons.mp h with z | z
      · rw [z, upd_same]; simp
      · exact s.rel.trk a (.inr z)
  · obtain ⟨a, e1, q⟩ := r.cell n ob e
    exact ⟨a, e1, ObR.le m (ALe.refl _) (fun _ z => upd_of hp z) q⟩
  · have : b = p := by simpa using z
    rw [this]; exact hp
theorem Stp.cell {H' : Hp} {al' : List Addr} {L' : LH} {a : Addr} {ob : Ob} (r0 : Rel K mg H al T L) (ha : H a = none) (s : Stp K mg H al T L H' al' (a :: T) L') (q : ObR K mg (mask H' (al' ++ (a :: T))) al' H' a ob) :
    Stp K mg H al T L H' (al' ++ [a]) T (L' ++ [some ob]) := by
  have r := s.rel
  have m : mask H' (al' ++ (a :: T)) = mask H' ((al' ++ [a]) ++ T) := mask_eq fun b => by simp [or_assoc]
  have na : a ∉ al' := fun z => r.dis a z List.mem_cons_self
  obtain ⟨be, e1, f1⟩ := s.ext
  have hL : L.length ≤ L'.length ∨ al.length ≠ L.length := by
    have := r.len
    rw [e1, List.length_append] at this
    by_cases q : al.length = L.length
    · left; omega
    · exact .inr q
  have keep : ∀ (n : Nat) (c : Option Ob), L'[n]? = some c → (L' ++ [some ob])[n]? = some c := fun n c e => by
    obtain ⟨h, _⟩ := List.getElem?_eq_some_iff.mp e
    rw [List.getElem?_append_left h]; exact e
  refine ⟨⟨by simp [r.len], ?_, fun b h z => ?_, fun b h => ?_, fun n c e => ?_⟩, ⟨be ++ [a], by rw [e1, List.append_assoc], fun b h => ?_⟩, ⟨[], by simp, fun _ z => nomatch z⟩, s.frame, s.stay, fun n e => keep _ _ (s.lck n e), fun n c e => ?_⟩
  · rw [List.nodup_append]
    exact ⟨r.nd, by simp, fun x hx y hy => by have : y = a := by simpa using hy
                                              rw [this]; rintro rfl; exact na hx⟩
  · rcases List.mem_append.mp h with h | h
    · exact r.dis b h (List.mem_cons_of_mem _ z)
    · have : b = a := by simpa using h
      subst this
      exact (r0.fresh ha).2 z
  · rcases h with h | h
    · rcases List.mem_append.mp h with h | h
      · exact r.trk b (.inl h)
      · have : b = a := by simpa using h
        rw [this]; exact r.trk a (.inr List.mem_cons_self)
    · exact r.trk b (.inr (List.mem_cons_of_mem _ h))
  · rw [← m]
    by_cases hn : n < L'.length
    · rw [List.getElem?_append_left hn] at e
      obtain ⟨b, e2, q2⟩ := r.cell n c e
      exact ⟨b, by rw [List.getElem?_append_left (by rw [r.len]; exact hn)]; exact e2, ObR.le (Le.refl _) (ALe.app _ _) (fun _ z => z) q2⟩
    · rw [List.getElem?_append_right (by omega)] at e
      have h0 : n - L'.length = 0 := by
        by_cases z : n - L'.length = 0
        · exact z
        · rw [List.getElem?_eq_none (by simp; omega)] at e; cases e
      rw [h0] at e
      simp at e
      subst e
      refine ⟨a, by rw [List.getElem?_append_right (by rw [r.len]; omega), r.len, h0]; rfl, ObR.le (Le.refl _) (ALe.app _ _) (fun _ z => z) q⟩
  · rcases List.mem_append.mp h with h | h
    · exact f1 b h
    · have : b = a := by simpa using h
      rw [this]; exact ha
  · obtain ⟨c', e'⟩ := s.alv n c e
    exact ⟨c', keep _ _ e'⟩
end
end L2.HW
namespace L2.HW
open PySem PySem.Spec PyProof.Rows

def datas : List Va → Option (List PyData)
  | [] => some []
  | .d x :: r => (datas r).map (x :: ·)
  | _ :: _ => none
@[simp] theorem datas_nil : datas [] = some [] := (rfl)
@[simp] theorem datas_cons (x : PyData) (r : List Va) : datas (.d x :: r) = (datas r).map (x :: ·) := (rfl)
@[simp] theorem datas_map (xs : List PyData) : datas (xs.map Va.d) = some xs := by
  induction xs with
  | nil => rfl
  | cons x r ih => rw [List.map_cons, datas_cons, ih]; rfl
@[simp] theorem datas_app (xs : List PyData) (ws : List Va) : datas (xs.map Va.d ++ ws) = (datas ws).map (xs ++ ·) := by
  induction xs with
  | nil => simp
  | cons x r ih => rw [List.map_cons, List.cons_append, datas_cons, ih]; cases datas ws <;> simp
theorem datas_eq : ∀ {ws : List Va} {xs : List PyData}, datas ws = some xs → ws = xs.map Va.d
  | [], xs, h => by cases h; rfl
  | .d x :: r, xs, h => by
    rw [datas_cons] at h
    cases e : datas r with
    | none => rw [e] at h; cases h
    | some ys => rw [e] at h; cases h; rw [datas_eq e]; rfl
  | .loc _ :: _, _, h => by cases h
  | .tup _ :: _, _, h => by cases h
  | .dct _ :: _, _, h => by cases h
  | .exc _ _ :: _, _, h => by cases h
  | .scr _ :: _, _, h => by cases h
def Va.data (L : LH) : Va → Option PyData
  | .d x => some x
  | .loc n => match L[n]? with
    | some (some (.lst ws)) => (datas ws).map .list
    | _ => none
  | _ => none
@[simp] theorem data_d (L : LH) (x : PyData) : (Va.d x).data L = some x := (rfl)
def Va.seq (L : LH) : Va → Option (List Va)
  | .d (.list ds) => some (ds.map .d)
  | .d (.tuple ds) => some (ds.map .d)
  | .tup ws => some ws
  | .loc n => match L[n]? with
    | some (some (.lst ws)) => some ws
    | _ => none
  | .scr ns => some (ns.map fun i => .d (.int i))
  | _ => none
@[simp] theorem seq_list (L : LH) (ds : List PyData) : (Va.d (.list ds)).seq L = some (ds.map .d) := (rfl)
@[simp] theorem seq_tuple (L : LH) (ds : List PyData) : (Va.d (.tuple ds)).seq L = some (ds.map .d) := (rfl)
@[simp] theorem seq_tup (L : LH) (ws : List Va) : (Va.tup ws).seq L = some ws := (rfl)
section
variable {K : PySem.W.Frag} {mg : Str → Option Value} {H M : Hp} {al T : List Addr} {L : LH}
theorem dq_all : ∀ {vs : List V} {xs : List PyData}, Rps K mg M al vs (xs.map Va.d) → DqAll M vs xs
  | _, [], .nil => .nil
  | _, _ :: _, .cons (.d q) r => .cons q (dq_all r)
theorem all_dq : ∀ {vs : List V} {xs : List PyData}, DqAll M vs xs → Rps K mg M al vs (xs.map Va.d)
  | _, _, .nil => .nil
  | _, _, .cons q r => .cons (.d q) (all_dq r)
theorem loc_lst (r : Rel K mg H al T L) {n : Nat} {v : V} {ws : List Va} (q : Rp K mg (mask H (al ++ T)) al v (.loc n)) (e : L[n]? = some (some (.lst ws))) : ∃ a vs, v = .ref a ∧ al[n]? = some a ∧ H a = some (.lst vs) ∧ Rps K mg (mask H (al ++ T)) al vs ws := by
  cases q with
  | loc e1 =>
    obtain ⟨a, e2, vs, e3, e4⟩ := r.cell n _ e
    rw [e1] at e2; cases e2
    exact ⟨_, vs, rfl, e1, e3, e4⟩
theorem data_ok (r : Rel K mg H al T L) {v : V} {w : Va} {x : PyData} (q : Rp K mg (mask H (al ++ T)) al v w) (e : w.data L = some x) : Dq H v x := by
  cases w with
  | d y => cases e; cases q with | d q => exact Dq.le (mask_le _ _) q
  | loc n =>
    simp only [Va.data] at e
    split at e
    · rename_i ws e1
      obtain ⟨a, vs, rfl, _, e3, e4⟩ := loc_lst r q e1
      cases e5 : datas ws with
      | none => rw [e5] at e; cases e
      | some xs =>
        rw [e5] at e
        cases e
        rw [datas_eq e5] at e4
        exact .lst e3 (DqAll.le (mask_le _ _) (dq_all e4))
    · cases e
  | tup _ => cases e
  | dct _ => cases e
  | exc _ _ => cases e
  | scr _ => cases e
theorem seq_ok (r : Rel K mg H al T L) {v : V} {w : Va} {ws : List Va} (q : Rp K mg (mask H (al ++ T)) al v w) (e : w.seq L = some ws) : ∃ a vs, v = .ref a ∧ (SqL K H a vs ∨ SqT K H a vs) ∧ Rps K mg (mask H (al ++ T)) al vs ws := by
  cases w with
  | d y =>
    cases q with
    | d q =>
      cases q with
      | lst e1 e2 => cases e; exact ⟨_, _, rfl, .inl (SqL.of (of_mask e1).2), all_dq e2⟩
      | tup e1 e2 => cases e; exact ⟨_, _, rfl, .inr (SqT.of (of_mask e1).2), all_dq e2⟩
      | non => cases e
      | bl _ => cases e
      | int _ => cases e
      | str _ => cases e
  | loc n =>
    simp only [Va.seq] at e
    split at e
    · rename_i us e1
      cases e
      obtain ⟨a, vs, rfl, _, e3, e4⟩ := loc_lst r q e1
      exact ⟨a, vs, rfl, .inl (SqL.of e3), e4⟩
    · cases e
  | tup us =>
    cases e
    cases q with
    | tup e1 e2 => exact ⟨_, _, rfl, .inr (SqT.of (of_mask e1).2), e2⟩
  | dct _ => cases e
  | exc _ _ => cases e
  | scr ns =>
    cases e
    cases q with
    | scr e1 =>
      refine ⟨_, _, rfl, .inl (SqL.le (mask_le _ _) e1), ?_⟩
      have go : ∀ ns : List Int, Rps K mg (mask H (al ++ T)) al (ns.map V.int) (ns.map fun i => Va.d (.int i)) := fun ns => by
        induction ns with
        | nil => exact .nil
        | cons n r ih => exact .cons (.d (.int n)) ih
      exact go ns
end

def FPost (X : Cx) (Wx : WX) (σ : St) (H : Hp) (al T : List Addr) (L : LH) (r : Res Ob) (Q : VK) : Prop :=
  match r with
  | .ok o L' => ∀ a H' al', H a = none → Stp X.K X.mg H al T L H' al' (a :: T) L' → ObR X.K X.mg (mask H' (al' ++ (a :: T))) al' H' a o → Q (.ref a) H'
  | .exc c f L' => ∀ cls d H' al', Stp X.K X.mg H al T L H' al' T L' → ExR X.mg (mask H' (al' ++ T)) c f cls d → Wx cls d σ H'
  | .stuck => False
def FRdg (X : Cx) (Wx : WX) (f : En → LH → Res Ob) : TE := fun σ H Q => ∃ env L al T, Conf X.K X.mg σ H env L al T ∧ FPost X Wx σ H al T L (f env L) Q
def SF (X : Cx) (Wx : WX) (e : Expr) (f : En → LH → Res Ob) : Prop := PE X e (FRdg X Wx f)
def Ob.va : Ob → Option Va
  | .lst ws => (datas ws).map fun xs => .d (.list xs)
  | .di kvs => (datas (kvs.map (·.2))).map fun xs => .dct ((kvs.map (·.1)).zip xs)
  | _ => none
@[simp] theorem va_lst (xs : List PyData) : (Ob.lst (xs.map Va.d)).va = some (.d (.list xs)) := by simp [Ob.va]
def eDat (g : En → LH → Res Ob) : EF := fun env L => (g env L).bind fun o L1 => match o.va with
  | some w => .ok w L1
  | none => .stuck
def eNew (g : En → LH → Res Ob) : EF := fun env L => (g env L).bind fun o L1 => .ok (.loc L1.length) (L1 ++ [some o])
theorem va_ok {K : PySem.W.Frag} {mg : Str → Option Value} {H : Hp} {al P : List Addr} {a : Addr} (na : a ∉ P) {o : Ob} {w : Va} {M : Hp} (hM : Le M (mask H P)) (q : ObR K mg M al H a o) (e : o.va = some w) : Rp K mg (mask H P) al (.ref a) w := by
  cases o with
  | lst ws =>
    obtain ⟨vs, h1, h2⟩ := q
    simp only [Ob.va] at e
    cases e5 : datas ws with
    | none => rw [e5] at e; cases e
    | some xs =>
      rw [e5] at e
      cases e
      rw [datas_eq e5] at h2
      exact .d (.lst (mask_of na h1) (DqAll.le hM (dq_all h2)))
  | di kvs =>
    obtain ⟨ks, h1, h2⟩ := q
    simp only [Ob.va] at e
    cases e5 : datas (kvs.map (·.2)) with
    | none => rw [e5] at e; cases e
    | some xs =>
      rw [e5] at e
      cases e
      refine .dct (mask_of na h1) ?_
      have go : ∀ {ks : List (Key × V)} {kvs : List (Int × Va)} {xs : List PyData}, KRp K mg M al ks kvs → datas (kvs.map (·.2)) = some xs → KDp (mask H P) ks ((kvs.map (·.1)).zip xs) := by
        intro ks kvs xs h
        induction h generalizing xs with
        | nil => intro _; exact .nil
        | @cons p q ps qs h1 _ ih =>
          intro e
          obtain ⟨k, w⟩ := q
          obtain ⟨pk, pv⟩ := p
          have e0 := datas_eq e
          match xs, e0, e with
          | x :: xs, e0, e =>
            simp only [List.map_cons, List.cons.injEq] at e0
            obtain ⟨e1, e2⟩ := e0
            obtain ⟨h3, h4⟩ := h1
            have h4' : Rp K mg M al pv w := h4
            rw [show w = Va.d x from e1] at h4'
            cases h4' with
            | d q => exact .cons ⟨h3, Dq.le hM q⟩ (ih (by rw [e2]; simp))
      exact go h2 e5
  | dt _ => cases e
  | ins _ _ => cases e
theorem se_dat {X : Cx} {Wx : WX} {e : Expr} {g : En → LH → Res Ob} (h : SF X Wx e g) : SE X Wx e (eDat g) := by
  refine PE.imp h ?_
  rintro σ H Q ⟨env, L, al, T, c, q⟩
  refine ⟨env, L, al, T, c, ?_⟩
  unfold eDat at q
  revert q
  generalize g env L = r
  intro q
  cases r with
  | stuck => exact q
  | exc c f L1 => exact q
  | ok o L1 =>
    intro a H' al' ha s ob
    simp only [Res.bind_ok] at q
    cases e : o.va with
    | none => rw [e] at q; exact q.elim
    | some w =>
      rw [e] at q
      have r := s.rel
      have na : a ∉ al' ++ T := fun z => by
        rcases List.mem_append.mp z with z | z
        · exact r.dis a z List.mem_cons_self
        · exact (c.rel.fresh ha).2 z
      have m : Le (mask H' (al' ++ (a :: T))) (mask H' (al' ++ T)) := fun b u e => by
        obtain ⟨n, e⟩ := of_mask e
        exact mask_of (fun z => n (by simp only [List.mem_append, List.mem_cons] at z ⊢; exact z.imp id .inr)) e
      exact q _ H' al' (Stp.drop (te := [a]) (fun b hb => by have : b = a := by simpa using hb
                                                             rw [this]; exact ha) s) (va_ok na m ob e)
theorem se_new {X : Cx} {Wx : WX} {e : Expr} {g : En → LH → Res Ob} (h : SF X Wx e g) : SE X Wx e (eNew g) := by
  refine PE.imp h ?_
  rintro σ H Q ⟨env, L, al, T, c, q⟩
  refine ⟨env, L, al, T, c, ?_⟩
  unfold eNew at q
  revert q
  generalize g env L = r
  intro q
  cases r with
  | stuck => exact q
  | exc c f L1 => exact q
  | ok o L1 =>
    intro a H' al' ha s ob
    refine q _ H' (al' ++ [a]) (Stp.cell c.rel ha s ob) (.loc ?_)
    rw [← s.rel.len, List.getElem?_append_right (Nat.le_refl _), Nat.sub_self]
    rfl
theorem gnew {X : Cx} {Wx : WX} {σ : St} {H : Hp} {al T : List Addr} {L : LH} {w : Va} {Q : VK} {o : HO} (r : Rel X.K X.mg H al T L) (h : GPost X Wx σ H al T L (RV X) (.ok w L) Q)
    (k : ∀ p, H p = none → (upd H p o) p = some o → Le (mask H (al ++ T)) (mask (upd H p o) (al ++ T)) → mask (upd H p o) (al ++ T) p = some o → RV X (mask (upd H p o) (al ++ T)) al (.ref p) w) : ∀ p, H p = none → Q (.ref p) (upd H p o) := fun p hp => by
  obtain ⟨n1, n2⟩ := r.fresh hp
  exact h _ _ al (r.alloc hp) (k p hp upd_same (mask_upd hp _) (mask_of (by simp [n1, n2]) upd_same))
theorem fnew {X : Cx} {Wx : WX} {σ : St} {H : Hp} {al T : List Addr} {L : LH} {ob : Ob} {Q : VK} {o : HO} (r : Rel X.K X.mg H al T L) (h : FPost X Wx σ H al T L (.ok ob L) Q)
    (k : ∀ p, H p = none → (upd H p o) p = some o → Le (mask H (al ++ T)) (mask (upd H p o) (al ++ (p :: T))) → ObR X.K X.mg (mask (upd H p o) (al ++ (p :: T))) al (upd H p o) p ob) : ∀ p, H p = none → Q (.ref p) (upd H p o) := fun p hp => by
  have s := r.allocT (o := o) hp
  exact h p _ al hp s (k p hp upd_same s.le)
end L2.HW
namespace L2.HW
open PySem PySem.Spec PyProof.Rows
section
variable {X : Cx}
def Va.items (L : LH) : Va → Option (List Va)
  | .d (.list ds) => some (ds.map .d)
  | .loc n => match L[n]? with
    | some (some (.lst ws)) => some ws
    | _ => none
  | _ => none
@[simp] theorem items_list (L : LH) (ds : List PyData) : (Va.d (.list ds)).items L = some (ds.map .d) := (rfl)
theorem items_ok {K : PySem.W.Frag} {mg : Str → Option Value} {H : Hp} {al T : List Addr} {L : LH} (r : Rel K mg H al T L) {v : V} {w : Va} {ws : List Va} (q : Rp K mg (mask H (al ++ T)) al v w) (e : w.items L = some ws) :
    ∃ a vs, v = .ref a ∧ H a = some (.lst vs) ∧ Rps K mg (mask H (al ++ T)) al vs ws := by
  cases w with
  | d y =>
    cases q with
    | d q =>
      cases q with
      | lst e1 e2 => cases e; exact ⟨_, _, rfl, (of_mask e1).2, all_dq e2⟩
      | tup e1 e2 => cases e
      | non => cases e
      | bl _ => cases e
      | int _ => cases e
      | str _ => cases e
  | loc n =>
    simp only [Va.items] at e
    split at e
    · rename_i us e1
      cases e
      obtain ⟨a, vs, rfl, _, e3, e4⟩ := loc_lst r q e1
      exact ⟨a, vs, rfl, e3, e4⟩
    · cases e
  | tup us => cases e
  | dct _ => cases e
  | exc _ _ => cases e
  | scr ns => cases e
def opAdd : Op2 := fun w u L => match w, u with
  | .d (.int i), .d (.int j) => .ok (.d (.int (i + j))) L
  | .d (.str a), .d (.str b) => if a.length + b.length ≤ sizeLine then .ok (.d (.str (a ++ b))) L else .stuck
  | .d (.tuple xs), .d (.tuple ys) => if xs.length + ys.length ≤ sizeLine then .ok (.d (.tuple (xs ++ ys))) L else .stuck
  | w, u => match w.items L, u.items L with
    | some ws, some us => if ws.length + us.length ≤ sizeLine then match datas ws, datas us with
      | some xs, some ys => .ok (.d (.list (xs ++ ys))) L
      | _, _ => .stuck
      else .stuck
    | _, _ => .stuck
theorem dq_app {M : Hp} : ∀ {vs us : List V} {xs ys : List PyData}, DqAll M vs xs → DqAll M us ys → DqAll M (vs ++ us) (xs ++ ys)
  | _, _, _, _, .nil, h => h
  | _, _, _, _, .cons a b, h => .cons a (dq_app b h)
theorem dq_int {M : Hp} {v : V} {i : Int} (h : Dq M v (.int i)) : v = .int i := by cases h; rfl
theorem dq_str {M : Hp} {v : V} {i : Str} (h : Dq M v (.str i)) : v = .str i := by cases h; rfl
theorem dq_bl {M : Hp} {v : V} {i : Bool} (h : Dq M v (.bool i)) : v = .bl i := by cases h; rfl
theorem dq_non {M : Hp} {v : V} (h : Dq M v .none) : v = .non := by cases h; rfl
theorem dq_tup {M : Hp} {v : V} {xs : List PyData} (h : Dq M v (.tuple xs)) : ∃ a vs, v = .ref a ∧ M a = some (.tup vs) ∧ DqAll M vs xs := by cases h with | tup e q => exact ⟨_, _, rfl, e, q⟩
theorem dq_lst {M : Hp} {v : V} {xs : List PyData} (h : Dq M v (.list xs)) : ∃ a vs, v = .ref a ∧ M a = some (.lst vs) ∧ DqAll M vs xs := by cases h with | lst e q => exact ⟨_, _, rfl, e, q⟩
theorem rp_d {K : PySem.W.Frag} {mg : Str → Option Value} {M : Hp} {al : List Addr} {v : V} {x : PyData} (h : Rp K mg M al v (.d x)) : Dq M v x := by cases h with | d q => exact q
abbrev rAddI : R2 := rI0 fun i j => .int (i + j)
abbrev rAddS : R2 := fun x y H Q => ∃ i j, x = .str i ∧ y = .str j ∧ i.length + j.length ≤ sizeLine ∧ Q (.str (i ++ j)) H
theorem or_add : OpR X (binaryOp .Add) (fun x y H Q => rAddI x y H Q ∨ rAddS x y H Q ∨ rCatA X.K x y H Q ∨ rCat x y H Q) := op_add.or (op_add_str.or (op_catA.or op_cat))
theorem ok_add : Ok2 X (fun x y H Q => rAddI x y H Q ∨ rAddS x y H Q ∨ rCatA X.K x y H Q ∨ rCat x y H Q) opAdd := by
  intro Wx σ H al T L x y w u Q r q1 q2 h
  unfold opAdd at h
  split at h
  · rename_i i j
    have e1 := dq_int (rp_d q1)
    have e2 := dq_int (rp_d q2)
    exact .inl ⟨i, j, e1, e2, gok r h (.d (.int _))⟩
  · rename_i a b
    have e1 := dq_str (rp_d q1)
    have e2 := dq_str (rp_d q2)
    split at h
    · exact .inr (.inl ⟨a, b, e1, e2, by assumption, gok r h (.d (.str _))⟩)
    · exact h.elim
  · rename_i xs ys
    obtain ⟨a, vs, rfl, e1, d1⟩ := dq_tup (rp_d q1)
    obtain ⟨b, us, rfl, e2, d2⟩ := dq_tup (rp_d q2)
    split at h
    · rename_i hl
      have l1 := d1.len
      have l2 := d2.len
      refine .inr (.inr (.inl ⟨a, b, vs, us, rfl, rfl, SqT.of (of_mask e1).2, SqT.of (of_mask e2).2, by omega, fun z => ?_, fun _ z => ?_, fun _ _ => gnew r h fun p hp e m e' => ?_⟩))
      · subst z
        cases d1
        exact gok r h (.d (.tup e2 d2))
      · subst z
        cases d2
        rw [List.append_nil] at h
        exact gok r h (.d (.tup e1 d1))
      · exact .d (.tup e' (dq_app (DqAll.le m d1) (DqAll.le m d2)))
    · exact h.elim
  · split at h
    · rename_i ws us e1 e2
      obtain ⟨a, vs, rfl, f1, d1⟩ := items_ok r q1 e1
      obtain ⟨b, us, rfl, f2, d2⟩ := items_ok r q2 e2
      have l1 := Paired.length d1
      have l2 := Paired.length d2
      split at h
      · split at h
        · rename_i xs ys e3 e4
          rw [datas_eq e3] at d1
          rw [datas_eq e4] at d2
          have d3 := dq_app (dq_all d1) (dq_all d2)
          refine .inr (.inr (.inr ⟨a, b, vs, _, rfl, rfl, f1, f2, by omega, gnew r h fun p hp e m e' => .d (.lst e' (DqAll.le m d3))⟩))
        · exact h.elim
      · exact h.elim
    · exact h.elim
def opI (g : Int → Int → Int) : Op2 := fun w u L => match w, u with
  | .d (.int i), .d (.int j) => .ok (.d (.int (g i j))) L
  | _, _ => .stuck
theorem ok_I {g : Int → Int → Int} : Ok2 X (rI0 fun i j => .int (g i j)) (opI g) := by
  intro Wx σ H al T L x y w u Q r q1 q2 h
  unfold opI at h
  split at h
  · exact ⟨_, _, dq_int (rp_d q1), dq_int (rp_d q2), gok r h (.d (.int _))⟩
  · exact h.elim
def opIC (C : Int → Int → Bool) (g : Int → Int → Int) : Op2 := fun w u L => match w, u with
  | .d (.int i), .d (.int j) => if C i j then .ok (.d (.int (g i j))) L else .stuck
  | _, _ => .stuck
theorem ok_IC {C : Int → Int → Bool} {D : Int → Int → Prop} {g : Int → Int → Int} (hC : ∀ i j, C i j = true → D i j) : Ok2 X (rI D fun i j => .int (g i j)) (opIC C g) := by
  intro Wx σ H al T L x y w u Q r q1 q2 h
  unfold opIC at h
  split at h
  · split at h
    · exact ⟨_, _, dq_int (rp_d q1), dq_int (rp_d q2), hC _ _ (by assumption), gok r h (.d (.int _))⟩
    · exact h.elim
  · exact h.elim
abbrev opSub : Op2 := opI fun i j => i - j
theorem ok_sub : Ok2 X (rI0 fun i j => .int (i - j)) opSub := ok_I
def mulC (i j : Int) : Bool := decide (i.natAbs.log2 + j.natAbs.log2 < 1000000)
def divC (_ j : Int) : Bool := decide (0 < j ∧ j.natAbs.log2 < 9000)
def modC (_ j : Int) : Bool := decide (0 < j)
def powC (i j : Int) : Bool := decide (0 ≤ j ∧ j ≤ 1000000 ∧ i.natAbs < 18446744073709551616)
abbrev opDiv : Op2 := opIC divC fun i j => i / j
theorem ok_div : Ok2 X (rI CDivW fun i j => .int (i / j)) opDiv := ok_IC fun i j h => (of_decide_eq_true h : 0 < j ∧ j.natAbs.log2 < 9000)
abbrev opMod : Op2 := opIC modC fun i j => i % j
theorem ok_mod : Ok2 X (rI (fun _ j => 0 < j) fun i j => .int (i % j)) opMod := ok_IC fun i j h => of_decide_eq_true h
abbrev opPow : Op2 := opIC powC fun i j => i ^ j.toNat
theorem ok_pow : Ok2 X (rI CPow fun i j => .int (i ^ j.toNat)) opPow := ok_IC fun i j h => by
  have := of_decide_eq_true h
  exact ⟨this.1, this.2.1, by rw [show (2 : Nat) ^ 64 = 18446744073709551616 from rfl]; exact this.2.2⟩
def rep {α : Type} (k : Nat) (xs : List α) : List α := (List.replicate k xs).flatten
def opMul : Op2 := fun w u L => match w, u with
  | .d (.int i), .d (.int j) => if mulC i j then .ok (.d (.int (i * j))) L else .stuck
  | .d (.tuple xs), .d (.int k) => if xs ≠ [] ∧ 2 ≤ k ∧ k ≤ 1000 ∧ xs.length ≤ 1000 then .ok (.d (.tuple (rep k.toNat xs))) L else .stuck
  | w, .d (.int k) => match w.items L with
    | some ws => if -(2 ^ 63) ≤ k ∧ k < 2 ^ 63 ∧ ws.length * k.toNat ≤ sizeLine then match datas ws with
      | some xs => .ok (.d (.list (rep k.toNat xs))) L
      | none => .stuck
      else .stuck
    | none => .stuck
  | _, _ => .stuck
theorem dq_rep {M : Hp} {vs : List V} {xs : List PyData} (h : DqAll M vs xs) : ∀ k : Nat, DqAll M (List.replicate k vs).flatten (List.replicate k xs).flatten
  | 0 => .nil
  | k + 1 => by rw [List.replicate_succ, List.replicate_succ, List.flatten_cons, List.flatten_cons]; exact dq_app h (dq_rep h k)
theorem or_mul : OpR X (binaryOp .Mult) (fun x y H Q => rI CMulW (fun i j => .int (i * j)) x y H Q ∨ rRepT X.K x y H Q ∨ rRep x y H Q) := op_mulW.or (op_repT.or op_rep)
theorem ok_mul : Ok2 X (fun x y H Q => rI CMulW (fun i j => .int (i * j)) x y H Q ∨ rRepT X.K x y H Q ∨ rRep x y H Q) opMul := by
  intro Wx σ H al T L x y w u Q r q1 q2 h
  unfold opMul at h
  split at h
  · split at h
    · rename_i hc
      exact .inl ⟨_, _, dq_int (rp_d q1), dq_int (rp_d q2), (of_decide_eq_true hc : _ < 1000000), gok r h (.d (.int _))⟩
    · exact h.elim
  · rename_i xs k
    obtain ⟨a, vs, rfl, e1, d1⟩ := dq_tup (rp_d q1)
    have e2 := dq_int (rp_d q2)
    split at h
    · rename_i hc
      have l1 := d1.len
      refine .inr (.inl ⟨a, k, vs, rfl, e2, SqT.of (of_mask e1).2, fun z => ?_, hc.2.1, hc.2.2.1, by omega, gnew r h fun p hp e m e' => .d (.tup e' (DqAll.le m (dq_rep d1 _)))⟩)
      subst z
      cases d1
      exact hc.1 rfl
    · exact h.elim
  · rename_i k _ _
    have e2 := dq_int (rp_d q2)
    split at h
    · rename_i ws e1
      obtain ⟨a, vs, rfl, f1, d1⟩ := items_ok r q1 e1
      have l1 := Paired.length d1
      split at h
      · rename_i hc
        split at h
        · rename_i xs e3
          rw [datas_eq e3] at d1
          exact .inr (.inr ⟨a, k, vs, rfl, e2, f1, hc.1, hc.2.1, by rw [l1]; exact hc.2.2, gnew r h fun p hp e m e' => .d (.lst e' (DqAll.le m (dq_rep (dq_all d1) _)))⟩)
        · exact h.elim
      · exact h.elim
    · exact h.elim
  · exact h.elim
def opC (g : Int → Int → Bool) : Op2 := fun w u L => match w, u with
  | .d (.int i), .d (.int j) => .ok (.d (.bool (g i j))) L
  | _, _ => .stuck
theorem ok_C {g : Int → Int → Bool} : Ok2 X (rI0 fun i j => .bl (g i j)) (opC g) := by
  intro Wx σ H al T L x y w u Q r q1 q2 h
  unfold opC at h
  split at h
  · exact ⟨_, _, dq_int (rp_d q1), dq_int (rp_d q2), gok r h (.d (.bl _))⟩
  · exact h.elim
abbrev opGt : Op2 := opC fun i j => decide (j < i)
abbrev opGe : Op2 := opC fun i j => decide (j ≤ i)
abbrev opLe : Op2 := opC fun i j => decide (i ≤ j)
theorem ok_gt : Ok2 X (rI0 fun i j => .bl (decide (j < i))) opGt := ok_C
theorem ok_ge : Ok2 X (rI0 fun i j => .bl (decide (j ≤ i))) opGe := ok_C
theorem ok_le : Ok2 X (rI0 fun i j => .bl (decide (i ≤ j))) opLe := ok_C
def intsOf : List PyData → Option (List Int)
  | [] => some []
  | .int i :: r => (intsOf r).map (i :: ·)
  | _ :: _ => none
theorem intsOf_eq : ∀ {xs : List PyData} {ns : List Int}, intsOf xs = some ns → xs = ns.map PyData.int
  | [], ns, h => by cases h; rfl
  | .int x :: r, ns, h => by
    simp only [intsOf] at h
    cases e : intsOf r with
    | none => rw [e] at h; cases h
    | some ys => rw [e] at h; cases h; rw [intsOf_eq e]; rfl
  | .none :: _, _, h => by cases h
  | .bool _ :: _, _, h => by cases h
  | .str _ :: _, _, h => by cases h
  | .list _ :: _, _, h => by cases h
  | .tuple _ :: _, _, h => by cases h
  | .dict _ :: _, _, h => by cases h
@[simp] theorem intsOf_map (ns : List Int) : intsOf (ns.map PyData.int) = some ns := by
  induction ns with
  | nil => rfl
  | cons x r ih => simp only [List.map_cons, intsOf, ih]; rfl
theorem dq_ints {M : Hp} : ∀ {vs : List V} {ns : List Int}, DqAll M vs (ns.map PyData.int) → vs = ns.map V.int
  | _, [], .nil => rfl
  | _, _ :: _, .cons q r => by rw [dq_int q, dq_ints r]; rfl
def opLt : Op2 := fun w u L => match w, u with
  | .d (.int i), .d (.int j) => .ok (.d (.bool (decide (i < j)))) L
  | .d (.tuple xs), .d (.tuple ys) => match intsOf xs, intsOf ys with
    | some ns, some ms => .ok (.d (.bool (HT.lexLt ns ms))) L
    | _, _ => .stuck
  | _, _ => .stuck
theorem or_lt (hu : X.A.units < cLine) : OpR X (compareOp .Lt) (fun x y H Q => rI0 (fun i j => .bl (decide (i < j))) x y H Q ∨ rLtT X.K x y H Q) := op_lt.or (op_ltT hu)
theorem ok_lt : Ok2 X (fun x y H Q => rI0 (fun i j => .bl (decide (i < j))) x y H Q ∨ rLtT X.K x y H Q) opLt := by
  intro Wx σ H al T L x y w u Q r q1 q2 h
  unfold opLt at h
  split at h
  · exact .inl ⟨_, _, dq_int (rp_d q1), dq_int (rp_d q2), gok r h (.d (.bl _))⟩
  · split at h
    · rename_i ns ms e1 e2
      rw [intsOf_eq e1] at q1
      rw [intsOf_eq e2] at q2
      obtain ⟨a, vs, rfl, f1, d1⟩ := dq_tup (rp_d q1)
      obtain ⟨b, us, rfl, f2, d2⟩ := dq_tup (rp_d q2)
      have g1 := dq_ints d1
      have g2 := dq_ints d2
      subst g1
      subst g2
      exact .inr ⟨a, b, ns, ms, rfl, rfl, SqT.of (of_mask f1).2, SqT.of (of_mask f2).2, gok r h (.d (.bl _))⟩
    · exact h.elim
  · exact h.elim
def twoStr : PyData → PyData → Bool
  | .str _, .str _ => true
  | _, _ => false
def cmpOk (x y : PyData) : Bool := twoStr x y || (SeqAt.shaped x && SeqAt.shaped y)
theorem twoStr_eq {x y : PyData} (h : twoStr x y = true) : ∃ a b, x = .str a ∧ y = .str b := by
  cases x <;> cases y <;> first | exact ⟨_, _, rfl, rfl⟩ | (simp [twoStr] at h)
def opEq : Op2 := fun w u L => match w.data L, u.data L with
  | some x, some y => if cmpOk x y then .ok (.d (.bool (PyData.eqv x y))) L else .stuck
  | _, _ => .stuck
def opNe : Op2 := fun w u L => match w.data L, u.data L with
  | some x, some y => if cmpOk x y then .ok (.d (.bool (!PyData.eqv x y))) L else .stuck
  | _, _ => .stuck
abbrev rEqAny (X : Cx) : R2 := fun x y H Q => rEq x y H Q ∨ rEqD X.K x y H Q
abbrev rNeAny (X : Cx) : R2 := fun x y H Q => rNe x y H Q ∨ rNeD X.K x y H Q
theorem or_eq (hu : X.A.units + 64 < cLine) : OpR X (compareOp .Eq) (rEqAny X) := op_eq.or (op_eqD hu)
theorem or_ne (hu : X.A.units + 64 < cLine) : OpR X (compareOp .NotEq) (rNeAny X) := op_ne.or (op_neD hu)
theorem ok_eq : Ok2 X (rEqAny X) opEq := by
  intro Wx σ H al T L x y w u Q r q1 q2 h
  unfold opEq at h
  split at h
  · split at h
    · rename_i e1 e2 hc
      unfold cmpOk at hc
      rw [Bool.or_eq_true, Bool.and_eq_true] at hc
      rcases hc with hc | hc
      · obtain ⟨a, b, rfl, rfl⟩ := twoStr_eq hc
        have h1 := dq_str (data_ok r q1 e1)
        have h2 := dq_str (data_ok r q2 e2)
        subst h1 h2
        refine .inl ⟨rfl, gok r h ?_⟩
        have : decide (V.str a = V.str b) = PyData.eqv (.str a) (.str b) := by
          rw [Bool.eq_iff_iff]
          simp [PyData.eqv]
        rw [this]
        exact .d (.bl _)
      · exact .inr ⟨_, _, (data_ok r q1 e1).dp, (data_ok r q2 e2).dp, hc.1, hc.2, gok r h (.d (.bl _))⟩
    · exact h.elim
  · exact h.elim
theorem ok_ne : Ok2 X (rNeAny X) opNe := by
  intro Wx σ H al T L x y w u Q r q1 q2 h
  unfold opNe at h
  split at h
  · split at h
    · rename_i e1 e2 hc
      unfold cmpOk at hc
      rw [Bool.or_eq_true, Bool.and_eq_true] at hc
      rcases hc with hc | hc
      · obtain ⟨a, b, rfl, rfl⟩ := twoStr_eq hc
        have h1 := dq_str (data_ok r q1 e1)
        have h2 := dq_str (data_ok r q2 e2)
        subst h1 h2
        refine .inl ⟨rfl, gok r h ?_⟩
        have : (!decide (V.str a = V.str b)) = !PyData.eqv (.str a) (.str b) := by
          congr 1
          rw [Bool.eq_iff_iff]
          simp [PyData.eqv]
        rw [this]
        exact .d (.bl _)
      · exact .inr ⟨_, _, (data_ok r q1 e1).dp, (data_ok r q2 e2).dp, hc.1, hc.2, gok r h (.d (.bl _))⟩
    · exact h.elim
  · exact h.elim
def Va.isN : Va → Bool
  | .d .none => true
  | _ => false
def opIsN : Op2 := fun w u L => match u with
  | .d .none => .ok (.d (.bool w.isN)) L
  | _ => .stuck
def opNotN : Op2 := fun w u L => match u with
  | .d .none => .ok (.d (.bool (!w.isN))) L
  | _ => .stuck
theorem rp_non {K : PySem.W.Frag} {mg : Str → Option Value} {M : Hp} {al : List Addr} {v : V} {w : Va} (h : Rp K mg M al v w) : decide (v = .non) = w.isN := by
  cases h with
  | d q => cases q <;> simp [Va.isN]
  | loc _ => simp [Va.isN]
  | tup _ _ => simp [Va.isN]
  | dct _ _ => simp [Va.isN]
  | exc _ _ => simp [Va.isN]
  | scr _ => simp [Va.isN]
abbrev rIsNn : R2 := fun x y H Q => y = .non ∧ Q (.bl (decide (x = .non))) H
abbrev rNotNn : R2 := fun x y H Q => y = .non ∧ Q (.bl (!decide (x = .non))) H
theorem ok_isN : Ok2 X rIsNn opIsN := by
  intro Wx σ H al T L x y w u Q r q1 q2 h
  unfold opIsN at h
  split at h
  · refine ⟨dq_non (rp_d q2), ?_⟩
    rw [rp_non q1]
    exact gok r h (.d (.bl _))
  · exact h.elim
theorem ok_notN : Ok2 X rNotNn opNotN := by
  intro Wx σ H al T L x y w u Q r q1 q2 h
  unfold opNotN at h
  split at h
  · refine ⟨dq_non (rp_d q2), ?_⟩
    rw [rp_non q1]
    exact gok r h (.d (.bl _))
  · exact h.elim
def opIsB : Op2 := fun w u L => match w, u with
  | .d (.bool a), .d (.bool b) => .ok (.d (.bool (decide (a = b)))) L
  | _, _ => .stuck
def opNotB : Op2 := fun w u L => match w, u with
  | .d (.bool a), .d (.bool b) => .ok (.d (.bool (!decide (a = b)))) L
  | _, _ => .stuck
end
end L2.HW
namespace L2.HW
open PySem PySem.Spec PyProof.Rows
section
variable {X : Cx} {Wx : WX}
def mkTup (ws : List Va) : Va := match datas ws with
  | some xs => .d (.tuple xs)
  | none => .tup ws
@[simp] theorem mkTup_map (xs : List PyData) : mkTup (xs.map Va.d) = .d (.tuple xs) := by simp [mkTup]
@[simp] theorem mkTup_0 : mkTup [] = .d (.tuple []) := (rfl)
theorem rp_mkTup {K : PySem.W.Frag} {mg : Str → Option Value} {M : Hp} {al : List Addr} {a : Addr} {vs : List V} {ws : List Va} (e : M a = some (.tup vs)) (r : Rps K mg M al vs ws) : Rp K mg M al (.ref a) (mkTup ws) := by
  unfold mkTup
  split
  · rename_i xs h
    rw [datas_eq h] at r
    exact .d (.tup e (dq_all r))
  · exact .tup e r
def eTup (fs : En → LH → Res (List Va)) : EF := fun env L => (fs env L).bind fun ws L1 => if ws.length ≤ sizeLine then .ok (mkTup ws) L1 else .stuck
theorem se_tup {es : List Expr} {fs : En → LH → Res (List Va)} {k : Nat} {pos : Pos} (h : SA X Wx es fs) : SE X Wx (.Tuple es k pos) (eTup fs) := by
  refine PE.imp (pe_tup h) ?_
  rintro σ H Q ⟨env, L, al, T, c, q⟩
  refine rseq (R := RVs X) c q fun vs H1 ws L1 al1 c1 s1 r1 q1 => ?_
  split at q1
  · exact ⟨by rw [Paired.length r1]; assumption, gnew c1.rel q1 fun p hp e m e' => rp_mkTup e' (Rps.le m (ALe.refl _) r1)⟩
  · exact q1.elim
theorem fseq {σ : St} {H : Hp} {al T : List Addr} {L : LH} {α β : Type} {R : Hp → List Addr → β → α → Prop} {env : En} {f : En → LH → Res α} {k : α → LH → Res Ob} {Q : VK} {Q' : β → Hp → Prop}
    (c : Conf X.K X.mg σ H env L al T) (h : FPost X Wx σ H al T L ((f env L).bind k) Q)
    (hk : ∀ b H1 a L1 al1, Conf X.K X.mg σ H1 env L1 al1 T → Stp X.K X.mg H al T L H1 al1 T L1 → R (mask H1 (al1 ++ T)) al1 b a → FPost X Wx σ H1 al1 T L1 (k a L1) Q → Q' b H1) : Rdg X Wx R f σ H Q' := by
  refine ⟨env, L, al, T, c, ?_⟩
  revert h
  generalize f env L = r
  intro g
  cases r with
  | stuck => exact g
  | exc c f L1 => exact g
  | ok b L1 =>
    intro b' H1 al1 s1 q1
    refine hk b' H1 b L1 al1 (c.stp s1) s1 q1 ?_
    simp only [Res.bind_ok] at g
    revert g
    generalize k b L1 = r2
    intro g
    have back : ∀ x, H1 x = none → H x = none := fun x z => by
      cases e : H x with
      | none => rfl
      | some o => exact absurd z (s1.stay x (by rw [e]; simp))
    cases r2 with
    | stuck => exact g
    | exc c' f L2 => exact fun cls d H' al' t q => g cls d H' al' (Stp.trans c.rel.len s1 t) q
    | ok o L2 => exact fun a H' al' ha t q => g a H' al' (back a ha) (Stp.trans c.rel.len s1 t) q
def fLst (fs : En → LH → Res (List Va)) : En → LH → Res Ob := fun env L => (fs env L).bind fun ws L1 => if ws.length ≤ sizeLine then .ok (.lst ws) L1 else .stuck
theorem sf_lst {es : List Expr} {fs : En → LH → Res (List Va)} {pos : Pos} (h : SA X Wx es fs) : SF X Wx (.List es pos) (fLst fs) := by
  refine PE.imp (pe_lst h) ?_
  rintro σ H Q ⟨env, L, al, T, c, q⟩
  refine fseq (R := RVs X) c q fun vs H1 ws L1 al1 c1 s1 r1 q1 => ?_
  split at q1
  · exact ⟨by rw [Paired.length r1]; assumption, fnew c1.rel q1 fun p hp e m => ⟨vs, e, Rps.le m (ALe.refl _) r1⟩⟩
  · exact q1.elim
def aStar (f : EF) (g : En → LH → Res (List Va)) : En → LH → Res (List Va) := fun env L => (f env L).bind fun w L1 => match w.seq L1 with
  | some us => (g env L1).bind fun ws L2 => .ok (us ++ ws) L2
  | none => .stuck
theorem rps_app {K : PySem.W.Frag} {mg : Str → Option Value} {M : Hp} {al : List Addr} : ∀ {vs us : List V} {xs ys : List Va}, Rps K mg M al vs xs → Rps K mg M al us ys → Rps K mg M al (vs ++ us) (xs ++ ys)
  | _, _, _, _, .nil, h => h
  | _, _, _, _, .cons a b, h => .cons a (rps_app b h)
def alook {κ α : Type} [DecidableEq κ] (ks : List (κ × α)) (k : κ) : Option α := (ks.find? fun kv => decide (kv.1 = k)).map (·.2)
@[simp] theorem alook_nil {κ α : Type} [DecidableEq κ] (k : κ) : alook ([] : List (κ × α)) k = none := (rfl)
theorem alook_cons {κ α : Type} [DecidableEq κ] (k' : κ) (x : α) (ks : List (κ × α)) (k : κ) : alook ((k', x) :: ks) k = if k' = k then some x else alook ks k := by
  unfold alook
  rw [List.find?_cons]
  by_cases h : k' = k
  · simp [h]
  · simp [h]
def ORp {α : Type} (R : V → α → Prop) : Option V → Option α → Prop
  | some z, some x => R z x
  | none, none => True
  | _, _ => False
theorem look_pair {κ κ' α : Type} [DecidableEq κ] [DecidableEq κ'] {f : κ → κ'} (hf : ∀ a b, f a = f b → a = b) {R : V → α → Prop} {ks : List (κ' × V)} {as : List (κ × α)} (r : Paired (fun (p : κ' × V) (q : κ × α) => p.1 = f q.1 ∧ R p.2 q.2) ks as) (k : κ) : ORp R (valV ks (f k)) (alook as k) := by
  induction r with
  | nil => trivial
  | @cons p q ps qs h _ ih =>
    obtain ⟨pk, pv⟩ := p
    obtain ⟨qk, qv⟩ := q
    obtain ⟨h1, h2⟩ := h
    simp only at h1 h2
    subst h1
    rw [alook_cons]
    by_cases e : qk = k
    · subst e
      rw [if_pos rfl, valV_pos rfl]
      exact h2
    · rw [if_neg e, valV_neg (fun z => e (hf _ _ z))]
      exact ih
def Va.dget (L : LH) (w u : Va) : Option (Option Va) := match w, u with
  | .dct ks, .d (.int i) => some ((alook ks i).map Va.d)
  | .loc n, .d (.int i) => match L[n]? with
    | some (some (.di ks)) => some (alook ks i)
    | _ => none
  | .loc n, .d (.tuple xs) => match L[n]?, intsOf xs with
    | some (some (.dt ks)), some ns => some (alook ks ns)
    | _, _ => none
  | _, _ => none
theorem inl_inj (a b : Int) (h : (Sum.inl a : Key) = Sum.inl b) : a = b := by cases h; rfl
theorem map_inl_inj : ∀ (a b : List Int), a.map (Sum.inl : Int → Key) = b.map Sum.inl → a = b
  | [], [], _ => rfl
  | [], _ :: _, h => by cases h
  | _ :: _, [], h => by cases h
  | x :: a, y :: b, h => by
    simp only [List.map_cons, List.cons.injEq] at h
    rw [inl_inj _ _ h.1, map_inl_inj a b h.2]
theorem dget_ok {K : PySem.W.Frag} {mg : Str → Option Value} {H : Hp} {al T : List Addr} {L : LH} (r : Rel K mg H al T L) {v y : V} {w u : Va} {o : Option Va} (q : Rp K mg (mask H (al ++ T)) al v w) (q2 : Rp K mg (mask H (al ++ T)) al y u) (e : w.dget L u = some o) :
    ∃ a ov, v = .ref a ∧ DGet H a y ov ∧ ORp (Rp K mg (mask H (al ++ T)) al) ov o := by
  unfold Va.dget at e
  split at e
  · rename_i ks i
    cases e
    have hy := dq_int (rp_d q2)
    subst hy
    cases q with
    | @dct a kvs _ e1 e2 =>
      have l := look_pair (f := (Sum.inl : Int → Key)) inl_inj e2 i
      refine ⟨a, valV kvs (Sum.inl i), rfl, DGet.k (k := Sum.inl i) (of_mask e1).2, ?_⟩
      revert l
      cases alook ks i <;> cases valV kvs (Sum.inl i) <;> intro l
      · trivial
      · exact l
      · exact l
      · exact .d l
  · rename_i n i
    split at e
    · rename_i ks e1
      cases e
      have hy := dq_int (rp_d q2)
      subst hy
      cases q with
      | @loc _ a e2 =>
        obtain ⟨a', e3, kvs, e4, e5⟩ := r.cell n _ e1
        rw [e2] at e3; cases e3
        exact ⟨a, valV kvs (Sum.inl i), rfl, DGet.k (k := Sum.inl i) e4, look_pair (f := (Sum.inl : Int → Key)) inl_inj e5 i⟩
    · cases e
  · rename_i n xs
    split at e
    · rename_i ks ns e1 e0
      cases e
      rw [intsOf_eq e0] at q2
      obtain ⟨b, us, rfl, f1, d1⟩ := dq_tup (rp_d q2)
      have g1 := dq_ints d1
      subst g1
      cases q with
      | @loc _ a e2 =>
        obtain ⟨a', e3, kvs, e4, e5⟩ := r.cell n _ e1
        rw [e2] at e3; cases e3
        exact ⟨a, valV kvs (ns.map Sum.inl), rfl, DGet.t (k := ns.map Sum.inl) e4 (by rw [List.map_map]; exact (of_mask f1).2), look_pair (f := fun ns : List Int => ns.map (Sum.inl : Int → Key)) map_inl_inj e5 ns⟩
    · cases e
  · cases e
theorem atI_pair {K : PySem.W.Frag} {mg : Str → Option Value} {M : Hp} {al : List Addr} {vs : List V} {ws : List Va} (r : Rps K mg M al vs ws) {i : Int} {x : Va} (e : atI ws i = some x) : ∃ z, atI vs i = some z ∧ Rp K mg M al z x := by
  unfold atI at e ⊢
  rw [Paired.length r]
  cases h : ixN ws.length i with
  | none => rw [h] at e; cases e
  | some j =>
    rw [h] at e
    simp only [Option.bind_some] at e ⊢
    clear h
    induction r generalizing j with
    | nil => simp at e
    | cons a b ih =>
      cases j with
      | zero => simp at e; subst e; exact ⟨_, rfl, a⟩
      | succ j => simpa using ih j (by simpa using e)
def opIx : Op2 := fun w u L => match w.dget L u with
  | some (some x) => .ok x L
  | some none => .stuck
  | none => match u with
    | .d (.int i) => match w.seq L with
      | some ws => match atI ws i with
        | some x => .ok x L
        | none => .stuck
      | none => match w with
        | .d (.str z) => if z.length ≤ sizeLine then match atI z.cps.toList i with
          | some c => .ok (.d (.str ⟨#[c]⟩)) L
          | none => .stuck
          else .stuck
        | _ => .stuck
    | _ => .stuck
def rIxD : R2 := fun x y H Q => ∃ a v, x = .ref a ∧ DGet H a y (some v) ∧ Q v H
theorem ix_dict (hu : X.A.units + 1 < cLine) : IxR X rIxD := by
  intro value slice pins s σ H x y v u Q I rx ry h hs
  obtain ⟨a, z, rfl, g, q⟩ := h
  obtain rfl : v = Value.ref a := rx
  have hT := dict_typeIs I g
  unfold subscriptTail
  refine wpAny_bind ?_
  rw [getitemInPython_of_ne hT.not_modules]
  refine wpAny_bind (wpAny_specialOf hT PySem.F.slot_dict_getitem.lookup ?_)
  have fin : wpAny (model X.prog X.w) X.A (subscripted slice false (.ref a) u) (fun r s₃ => wpAny (model X.prog X.w) X.A (letTemporaryGo value (.ref a) r >>= fun _ => pure r) (EP X pins σ Q) X.xe s₃) X.xe s := by
    rw [hs]
    exact wpAny_operating (wpAny_mono (d_getItem (Q := EP X pins σ Q) (E := X.xe) hu I g ry fun w' s' I' r' => ⟨z, H, I', r', q⟩) (fun r s₃ h₃ => wpAny_bind (wpAny_letTemporaryGo (wpAny_pure h₃))) fun _ _ x => x)
  first
    | exact wpAny_pure (wpAny_bind fin)
    | exact wpAny_bind (wpAny_pure (wpAny_bind fin))
    | exact wpAny_bind fin
theorem ok_ix : Ok2 X (fun x y H Q => rIxD x y H Q ∨ rIx X.K x y H Q) opIx := by
  intro Wx σ H al T L x y w u Q r q1 q2 h
  unfold opIx at h
  split at h
  · rename_i x e
    obtain ⟨a, ov, rfl, g, k⟩ := dget_ok r q1 q2 e
    cases ov with
    | none => exact k.elim
    | some z => exact .inl ⟨a, z, rfl, g, gok r h k⟩
  · exact h.elim
  · split at h
    · rename_i i _
      have hy := dq_int (rp_d q2)
      split at h
      · rename_i ws e
        obtain ⟨a, vs, rfl, sq, rr⟩ := seq_ok r q1 e
        split at h
        · rename_i x e2
          obtain ⟨z, h1, h2⟩ := atI_pair rr e2
          rcases sq with sq | sq
          · exact .inr (.inl ⟨a, vs, i, z, rfl, hy, sq, h1, gok r h h2⟩)
          · exact .inr (.inr (.inl ⟨a, vs, i, z, rfl, hy, sq, h1, gok r h h2⟩))
        · exact h.elim
      · split at h
        · rename_i z _ _
          split at h
          · split at h
            · rename_i hz _ c e2
              exact .inr (.inr (.inr ⟨z, i, c, dq_str (rp_d q1), hy, hz, e2, gok r h (.d (.str _))⟩))
            · exact h.elim
          · exact h.elim
        · exact h.elim
    · exact h.elim
theorem se_ix {a b : Expr} {fa fb : EF} {pos : Pos} (hu : X.A.units + 1 < cLine) (ha : SE X Wx a fa) (hb : SE X Wx b fb) (hs : PlainIx b := by exact fun _ _ => rfl) : SE X Wx (.Subscript a b pos) (eOp opIx fa fb) :=
  PE.imp (pe_ix ((ix_dict hu).or ix_seq) ha hb hs) fun _ _ _ h => op_core ok_ix h
end
end L2.HW
namespace L2.HW
open PySem PySem.Spec PyProof.Rows
section
variable {X : Cx} {Wx : WX}
def SO (X : Cx) (Wx : WX) (e : Option Expr) (f : En → LH → Res (Option Int)) : Prop := PO X e (Rdg X Wx RO f)
theorem PO.imp {e : Option Expr} {t t' : TO} (h : PO X e t) (k : ∀ σ H Q, t' σ H Q → t σ H Q) : PO X e t' := ⟨fun pins s σ H Q I q => h.run pins s σ H Q I (k σ H Q q)⟩
def pNone : En → LH → Res (Option Int) := fun _ L => .ok none L
def pSome (f : EF) : En → LH → Res (Option Int) := fun env L => (f env L).bind fun w L1 => match w with
  | .d (.int i) => .ok (some i) L1
  | _ => .stuck
theorem so_none : SO X Wx none pNone := PO.imp po_none fun σ H Q ⟨env, L, al, T, c, h⟩ => gok c.rel h rfl
theorem so_some {e : Expr} {f : EF} (h : SE X Wx e f) : SO X Wx (some e) (pSome f) := by
  refine PO.imp (po_some h) ?_
  rintro σ H Q ⟨env, L, al, T, c, q⟩
  refine rseq (R := RV X) c q fun v H1 w L1 al1 c1 s1 r1 q1 => ?_
  split at q1
  · exact ⟨_, dq_int (rp_d r1), gok c1.rel q1 rfl⟩
  · exact q1.elim
def cutA {α : Type} (xs : List α) (lo hi : Option Int) : List α := (xs.drop (HT.sIx xs.length 0 lo)).take (HT.sIx xs.length xs.length hi - HT.sIx xs.length 0 lo)
theorem cutA_map {α β : Type} (f : α → β) (xs : List α) (lo hi : Option Int) : cutA (xs.map f) lo hi = (cutA xs lo hi).map f := by
  unfold cutA
  simp [List.map_drop, List.map_take]
theorem rps_drop {K : PySem.W.Frag} {mg : Str → Option Value} {M : Hp} {al : List Addr} : ∀ {vs : List V} {ws : List Va} (n : Nat), Rps K mg M al vs ws → Rps K mg M al (vs.drop n) (ws.drop n)
  | _, _, 0, h => h
  | _, _, _ + 1, .nil => .nil
  | _, _, n + 1, .cons _ b => rps_drop n b
theorem rps_take {K : PySem.W.Frag} {mg : Str → Option Value} {M : Hp} {al : List Addr} : ∀ {vs : List V} {ws : List Va} (n : Nat), Rps K mg M al vs ws → Rps K mg M al (vs.take n) (ws.take n)
  | _, _, 0, _ => .nil
  | _, _, _ + 1, .nil => .nil
  | _, _, n + 1, .cons a b => .cons a (rps_take n b)
theorem rps_cut {K : PySem.W.Frag} {mg : Str → Option Value} {M : Hp} {al : List Addr} {vs : List V} {ws : List Va} (h : Rps K mg M al vs ws) (lo hi : Option Int) : Rps K mg M al (cutV vs lo hi) (cutA ws lo hi) := by
  unfold cutV cutA
  rw [Paired.length h]
  exact rps_take _ (rps_drop _ h)
theorem cut_whole {α : Type} {xs : List α} {lo hi : Option Int} (h : HT.sIx xs.length 0 lo = 0 ∧ HT.sIx xs.length xs.length hi = xs.length) : cutA xs lo hi = xs := by
  unfold cutA
  rw [h.1, h.2]
  simp
def opSl (w : Va) (lo hi : Option Int) (L : LH) : Res Va := match w with
  | .d (.tuple xs) => .ok (.d (.tuple (cutA xs lo hi))) L
  | .d (.str z) => if z.length ≤ sizeLine then .ok (.d (.str (cutS z lo hi))) L else .stuck
  | w => match w.items L with
    | some ws => match datas (cutA ws lo hi) with
      | some xs => .ok (.d (.list xs)) L
      | none => .stuck
    | none => .stuck
def eSl (f : EF) (p q : En → LH → Res (Option Int)) : EF := fun env L => (f env L).bind fun w L1 => (p env L1).bind fun lo L2 => (q env L2).bind fun hi L3 => opSl w lo hi L3
abbrev rSlAny (X : Cx) : V → Option Int → Option Int → Hp → VK → Prop := fun x lo hi H Q => rSlA X.K x lo hi H Q ∨ rSlL X.K x lo hi H Q ∨ rSlS x lo hi H Q
theorem sl_any : SlR X (rSlAny X) := SlR.or sl_tupA (SlR.or sl_list sl_str)
theorem se_sl {e : Expr} {lo hi : Option Expr} {f : EF} {p q : En → LH → Res (Option Int)} {p2 pos : Pos} (he : SE X Wx e f) (hl : SO X Wx lo p) (hu : SO X Wx hi q) : SE X Wx (.Subscript e (.Slice lo hi none p2) pos) (eSl f p q) := by
  refine PE.imp (pe_slice sl_any he hl hu) ?_
  rintro σ H Q ⟨env, L, al, T, c, h⟩
  refine rseq (R := RV X) c h fun v H1 w L1 al1 c1 s1 r1 h1 => ?_
  refine rseq (R := RO) c1 h1 fun lo' H2 lo L2 al2 c2 s2 e2 h2 => ?_
  refine rseq (R := RO) c2 h2 fun hi' H3 hi L3 al3 c3 s3 e3 h3 => ?_
  obtain rfl : lo' = lo := e2
  obtain rfl : hi' = hi := e3
  have r3 := s3.rp (s2.rp r1)
  unfold opSl at h3
  split at h3
  · rename_i xs
    obtain ⟨a, vs, rfl, e1, d1⟩ := dq_tup (rp_d r3)
    have l1 := d1.len
    refine .inl ⟨a, vs, rfl, SqT.of (of_mask e1).2, fun z => ?_, fun z => gnew c3.rel h3 fun p hp e m e' => ?_⟩
    · rw [l1] at z
      rw [cut_whole z] at h3
      exact gok c3.rel h3 (.d (.tup e1 d1))
    · have := rps_cut (K := X.K) (mg := X.mg) (al := al3) (all_dq (K := X.K) (mg := X.mg) (al := al3) d1) lo' hi'
      rw [cutA_map] at this
      exact .d (.tup e' (DqAll.le m (dq_all this)))
  · rename_i z
    split at h3
    · exact .inr (.inr ⟨z, dq_str (rp_d r3), by assumption, gok c3.rel h3 (.d (.str _))⟩)
    · exact h3.elim
  · split at h3
    · rename_i ws e1
      obtain ⟨a, vs, rfl, f1, d1⟩ := items_ok c3.rel r3 e1
      split at h3
      · rename_i xs e4
        have := rps_cut d1 lo' hi'
        rw [datas_eq e4] at this
        exact .inr (.inl ⟨a, vs, rfl, SqL.of f1, gnew c3.rel h3 fun p hp e m e' => .d (.lst e' (DqAll.le m (dq_all this)))⟩)
      · exact h3.elim
    · exact h3.elim
def fSl (f : EF) (p q : En → LH → Res (Option Int)) : En → LH → Res Ob := fun env L => (f env L).bind fun w L1 => (p env L1).bind fun lo L2 => (q env L2).bind fun hi L3 => match w.items L3 with
  | some ws => .ok (.lst (cutA ws lo hi)) L3
  | none => .stuck
def fCat (f g : EF) : En → LH → Res Ob := fun env L => (f env L).bind fun w L1 => (g env L1).bind fun u L2 => match w.items L2, u.items L2 with
  | some ws, some us => if ws.length + us.length ≤ sizeLine then .ok (.lst (ws ++ us)) L2 else .stuck
  | _, _ => .stuck
theorem sf_cat {a b : Expr} {f g : EF} {pos : Pos} (ha : SE X Wx a f) (hb : SE X Wx b g) : SF X Wx (.BinOp a .Add b pos) (fCat f g) := by
  refine PE.imp (pe_op op_cat ha hb) ?_
  rintro σ H Q ⟨env, L, al, T, c, h⟩
  refine fseq (R := RV X) c h fun v H1 w L1 al1 c1 s1 r1 h1 => ?_
  refine fseq (R := RV X) c1 h1 fun y H2 u L2 al2 c2 s2 r2 h2 => ?_
  split at h2
  · rename_i ws us e1 e2
    obtain ⟨a, vs, rfl, f1, d1⟩ := items_ok c2.rel (s2.rp r1) e1
    obtain ⟨b, zs, rfl, f2, d2⟩ := items_ok c2.rel r2 e2
    have l1 := Paired.length d1
    have l2 := Paired.length d2
    split at h2
    · exact ⟨a, b, vs, zs, rfl, rfl, f1, f2, by omega, fnew c2.rel h2 fun p hp e m => ⟨_, e, Rps.le m (ALe.refl _) (rps_app d1 d2)⟩⟩
    · exact h2.elim
  · exact h2.elim
def fRep (f g : EF) : En → LH → Res Ob := fun env L => (f env L).bind fun w L1 => (g env L1).bind fun u L2 => match w.items L2, u with
  | some ws, .d (.int k) => if -(2 ^ 63) ≤ k ∧ k < 2 ^ 63 ∧ ws.length * k.toNat ≤ sizeLine then .ok (.lst (rep k.toNat ws)) L2 else .stuck
  | _, _ => .stuck
theorem rps_rep {K : PySem.W.Frag} {mg : Str → Option Value} {M : Hp} {al : List Addr} {vs : List V} {ws : List Va} (h : Rps K mg M al vs ws) : ∀ k : Nat, Rps K mg M al (List.replicate k vs).flatten (List.replicate k ws).flatten
  | 0 => .nil
  | k + 1 => by rw [List.replicate_succ, List.replicate_succ, List.flatten_cons, List.flatten_cons]; exact rps_app h (rps_rep h k)
theorem sf_rep {a b : Expr} {f g : EF} {pos : Pos} (ha : SE X Wx a f) (hb : SE X Wx b g) : SF X Wx (.BinOp a .Mult b pos) (fRep f g) := by
  refine PE.imp (pe_op op_rep ha hb) ?_
  rintro σ H Q ⟨env, L, al, T, c, h⟩
  refine fseq (R := RV X) c h fun v H1 w L1 al1 c1 s1 r1 h1 => ?_
  refine fseq (R := RV X) c1 h1 fun y H2 u L2 al2 c2 s2 r2 h2 => ?_
  split at h2
  · rename_i ws k e1
    obtain ⟨a, vs, rfl, f1, d1⟩ := items_ok c2.rel (s2.rp r1) e1
    have e2 := dq_int (rp_d r2)
    have l1 := Paired.length d1
    split at h2
    · rename_i hc
      exact ⟨a, k, vs, rfl, e2, f1, hc.1, hc.2.1, by rw [l1]; exact hc.2.2, fnew c2.rel h2 fun p hp e m => ⟨_, e, Rps.le m (ALe.refl _) (rps_rep d1 _)⟩⟩
    · exact h2.elim
  · exact h2.elim

def flatD : PyData → Bool
  | .none => true
  | .bool _ => true
  | .int _ => true
  | .str _ => true
  | _ => false
theorem flat_eq {M : Hp} {v y : V} {x z : PyData} (h1 : Dq M v x) (h2 : Dq M y z) (f1 : flatD x = true) (f2 : flatD z = true) : flatV v = true ∧ eqV y v = PyData.eqv z x := by
  cases h1 <;> first | (cases f1; done) | (cases h2 <;> first | (cases f2; done) | exact ⟨rfl, by simp [eqV, PyData.eqv]⟩)
theorem flat_all {M : Hp} {v : V} {x : PyData} (h1 : Dq M v x) (f1 : flatD x = true) : ∀ {vs : List V} {xs : List PyData}, DqAll M vs xs → xs.all flatD = true → vs.all flatV = true ∧ inV v vs = xs.any fun z => PyData.eqv z x
  | _, _, .nil, _ => ⟨rfl, rfl⟩
  | _, _, .cons a b, f => by
    rw [List.all_cons, Bool.and_eq_true] at f
    obtain ⟨h, e⟩ := flat_eq h1 a f1 f.1
    obtain ⟨h3, _⟩ := flat_eq a a f.1 f.1
    obtain ⟨h2, e2⟩ := flat_all h1 f1 b f.2
    refine ⟨by rw [List.all_cons, h3, h2]; rfl, ?_⟩
    have e2' := e2
    unfold inV at e2' ⊢
    rw [List.any_cons, List.any_cons, e, e2']
def opIn (neg : Bool) : Op2 := fun w u L => match u.dget L w with
  | some o => .ok (.d (.bool (if neg then !o.isSome else o.isSome))) L
  | none => match u, w with
    | .d (.str z), .d (.str s) => match s.cps.toList with
      | [c] => .ok (.d (.bool (if neg then !decide (c ∈ z.cps.toList) else decide (c ∈ z.cps.toList)))) L
      | _ => .stuck
    | .d (.tuple ds), .d x => if flatD x && ds.all flatD then .ok (.d (.bool (if neg then !(ds.any fun z => PyData.eqv z x) else ds.any fun z => PyData.eqv z x))) L else .stuck
    | u, w => match u.data L, w.data L with
      | some (.list ds), some x => if SeqAt.shaped x && SeqAt.shaped (.list ds) then .ok (.d (.bool (if neg then !(ds.any fun z => PyData.eqv z x) else ds.any fun z => PyData.eqv z x))) L else .stuck
      | _, _ => .stuck
def rInDc (neg : Bool) : R2 := fun x y H Q => ∃ a o, y = .ref a ∧ DGet H a x o ∧ Q (.bl (if neg then !o.isSome else o.isSome)) H
theorem op_in_dict (hu : X.A.units + 1 < cLine) : OpR X (compareOp .In) (rInDc false) := by
  intro pins s σ H x y v u Q I rx ry h
  obtain ⟨a, o, rfl, g, q⟩ := h
  obtain rfl : u = Value.ref a := ry
  exact d_in hu I g rx fun s3 I3 => ⟨.bl o.isSome, H, I3, rfl, q⟩
theorem op_notIn_dict (hu : X.A.units + 1 < cLine) : OpR X (compareOp .NotIn) (rInDc true) := by
  intro pins s σ H x y v u Q I rx ry h
  obtain ⟨a, o, rfl, g, q⟩ := h
  obtain rfl : u = Value.ref a := ry
  exact d_notIn hu I g rx fun s3 I3 => ⟨.bl (!o.isSome), H, I3, rfl, q⟩
abbrev rInSg (neg : Bool) : R2 := fun x y H Q => ∃ (c : Nat) (z : Str), x = .str ⟨#[c]⟩ ∧ y = .str z ∧ Q (.bl (if neg then !decide (c ∈ z.cps.toList) else decide (c ∈ z.cps.toList))) H
abbrev rInDd (X : Cx) (neg : Bool) : R2 := fun x y H Q => ∃ d ds, Dp X.K H x d ∧ Dp X.K H y (.list ds) ∧ SeqAt.shaped d = true ∧ SeqAt.shaped (.list ds) = true ∧ Q (.bl (if neg then !(ds.any fun z => PyData.eqv z d) else ds.any fun z => PyData.eqv z d)) H
abbrev rInAny (X : Cx) (neg : Bool) : R2 := fun x y H Q => rInDc neg x y H Q ∨ rInSg neg x y H Q ∨ rIn X.K neg x y H Q ∨ rInDd X neg x y H Q
theorem op_in_any (hu : X.A.units + 65 < cLine) : OpR X (compareOp .In) (rInAny X false) :=
  OpR.or (op_in_dict (by omega)) (OpR.or (r := rInSg false) op_in_sign (OpR.or op_in_seq (r' := rInDd X false) (op_inD hu)))
theorem op_notIn_any (hu : X.A.units + 65 < cLine) : OpR X (compareOp .NotIn) (rInAny X true) :=
  OpR.or (op_notIn_dict (by omega)) (OpR.or (r := rInSg true) op_notIn_sign (OpR.or op_notIn_seq (r' := rInDd X true) (op_notInD hu)))
theorem ok_in {neg : Bool} : Ok2 X (rInAny X neg) (opIn neg) := by
  intro Wx σ H al T L x y w u Q r q1 q2 h
  unfold opIn at h
  split at h
  · rename_i o e
    obtain ⟨a, ov, rfl, g, k⟩ := dget_ok r q2 q1 e
    refine .inl ⟨a, ov, rfl, g, ?_⟩
    have : ov.isSome = o.isSome := by
      cases ov <;> cases o <;> first | rfl | exact k.elim
    rw [this]
    exact gok r h (.d (.bl _))
  · split at h
    · rename_i z s _
      split at h
      · rename_i c e
        have e1 : s = ⟨#[c]⟩ := by
          obtain ⟨cps⟩ := s
          simp only at e
          congr 1
          exact Array.toList_inj.mp e
        refine .inr (.inl ⟨c, z, ?_, dq_str (rp_d q2), gok r h (.d (.bl _))⟩)
        rw [dq_str (rp_d q1), e1]
      · exact h.elim
    · rename_i ds x _
      split at h
      · rename_i hc
        rw [Bool.and_eq_true] at hc
        obtain ⟨a, vs, rfl, e1, d1⟩ := dq_tup (rp_d q2)
        obtain ⟨h1, h2⟩ := flat_all (rp_d q1) hc.1 d1 hc.2
        obtain ⟨h3, _⟩ := flat_eq (rp_d q1) (rp_d q1) hc.1 hc.1
        refine .inr (.inr (.inl ⟨a, vs, rfl, .inr (SqT.of (of_mask e1).2), h3, h1, ?_⟩))
        rw [h2]
        exact gok r h (.d (.bl _))
      · exact h.elim
    · split at h
      · rename_i ds x e1 e2
        split at h
        · rename_i hc
          rw [Bool.and_eq_true] at hc
          exact .inr (.inr (.inr ⟨x, ds, (data_ok r q1 e2).dp, (data_ok r q2 e1).dp, hc.1, hc.2, gok r h (.d (.bl _))⟩))
        · exact h.elim
      · exact h.elim
end
end L2.HW
namespace L2.HW
open PySem PySem.Spec PyProof.Rows
section
variable {X : Cx} {Wx : WX}
def OkC (X : Cx) (r : List V → Hp → VK → Prop) (g : List Va → LH → Res Va) : Prop := ∀ (Wx : WX) (σ : St) (H : Hp) (al T : List Addr) (L : LH) (xs : List V) (ws : List Va) (Q : VK), Rel X.K X.mg H al T L → RVs X (mask H (al ++ T)) al xs ws →
  GPost X Wx σ H al T L (RV X) (g ws L) Q → r xs H Q
def eCallB (g : List Va → LH → Res Va) (fs : En → LH → Res (List Va)) : EF := fun env L => (fs env L).bind g
def fCallB (g : List Va → LH → Res Ob) (fs : En → LH → Res (List Va)) : En → LH → Res Ob := fun env L => (fs env L).bind g
variable {x : Str} {p pos : Pos} {e : Expr} {es : List Expr} {fs : En → LH → Res (List Va)} {id T : String} {r : List V → Hp → VK → Prop}
theorem callB_core {g : List Va → LH → Res Va} {σ : St} {H : Hp} {Q : VK} (ok : OkC X r g) (h : Rdg X Wx (RV X) (eCallB g fs) σ H Q) : tCB r (Rdg X Wx (RVs X) fs) σ H Q := by
  obtain ⟨env, L, al, T, c, q⟩ := h
  exact rseq (R := RVs X) c q fun vs H1 ws L1 al1 c1 s1 r1 q1 => ok Wx σ H1 al1 T L1 vs ws Q c1.rel r1 q1
theorem se_callB {g : List Va → LH → Res Va} (hc : CallR X (.builtin id) r) (ok : OkC X r g) (hg : Gl X x) (hm : X.mg x = none) (hv : bootBuiltins x = some (.builtin id)) (ha : SA X Wx (e :: es) fs) (hn : x ≠ "__name__" := by decide) (hdb : (x == ("__debug__" : Str)) = false := by decide)
    (he : starEach (e :: es) X.env = (false, eval e X.env) :: starEach es X.env := by rfl) (hpl : (backTo pos (starEach es X.env)).any (·.1) = false := by rfl) : SE X Wx (.Call (.Name x p) (e :: es) [] pos) (eCallB g fs) :=
  PE.imp (pe_callB hc hg hm hv ha hn hdb he hpl) fun _ _ _ h => callB_core ok h
theorem se_callTy {g : List Va → LH → Res Va} (hc : CallR X (.type T) r) (ok : OkC X r g) (hg : Gl X x) (hm : X.mg x = none) (hv : bootBuiltins x = some (.type T)) (ha : SA X Wx (e :: es) fs) (hn : x ≠ "__name__" := by decide) (hdb : (x == ("__debug__" : Str)) = false := by decide)
    (he : starEach (e :: es) X.env = (false, eval e X.env) :: starEach es X.env := by rfl) (hpl : (backTo pos (starEach es X.env)).any (·.1) = false := by rfl) : SE X Wx (.Call (.Name x p) (e :: es) [] pos) (eCallB g fs) :=
  PE.imp (pe_callTy hc hg hm hv ha hn hdb he hpl) fun _ _ _ h => callB_core ok h
theorem rps_1 {K : PySem.W.Frag} {mg : Str → Option Value} {M : Hp} {al : List Addr} {xs : List V} {w : Va} (h : Rps K mg M al xs [w]) : ∃ v, xs = [v] ∧ Rp K mg M al v w := by
  cases h with | cons a b => cases b; exact ⟨_, rfl, a⟩
theorem rps_2 {K : PySem.W.Frag} {mg : Str → Option Value} {M : Hp} {al : List Addr} {xs : List V} {w u : Va} (h : Rps K mg M al xs [w, u]) : ∃ v y, xs = [v, y] ∧ Rp K mg M al v w ∧ Rp K mg M al y u := by
  cases h with | cons a b => cases b with | cons c d => cases d; exact ⟨_, _, rfl, a, c⟩
def cLen : List Va → LH → Res Va := fun ws L => match ws with
  | [w] => match w with
    | .d (.str z) => if z.length ≤ sizeLine then .ok (.d (.int z.length)) L else .stuck
    | .dct ks => .ok (.d (.int ks.length)) L
    | w => match w.seq L with
      | some us => .ok (.d (.int us.length)) L
      | none => match w with
        | .loc n => match L[n]? with
          | some (some (.di ks)) => .ok (.d (.int ks.length)) L
          | _ => .stuck
        | _ => .stuck
  | _ => .stuck
abbrev rLenS (X : Cx) : List V → Hp → VK → Prop := fun xs H Q => ∃ x n, xs = [x] ∧ LenV X.K x H n ∧ Q (.int n) H
abbrev rLenD : List V → Hp → VK → Prop := fun xs H Q => ∃ a kvs, xs = [.ref a] ∧ H a = some (.dK kvs) ∧ Q (.int (kvs.length : Nat)) H
theorem call_lenDK : CallR X (.builtin "len") rLenD := by
  intro pins s σ H xs us Q I r h
  obtain ⟨a, kvs, rfl, e, q⟩ := h
  rw [Vals.ref1 r]
  exact d_len I (.inl e) fun t s' I' => ⟨.int _, H, I', ⟨t, rfl⟩, q⟩
theorem cr_len : CallR X (.builtin "len") (fun xs H Q => rLenS X xs H Q ∨ rLenD xs H Q) := CallR.or call_len call_lenDK
theorem ok_len : OkC X (fun xs H Q => rLenS X xs H Q ∨ rLenD xs H Q) cLen := by
  intro Wx σ H al T L xs ws Q r q h
  unfold cLen at h
  split at h
  · rename_i w
    obtain ⟨v, rfl, q1⟩ := rps_1 q
    split at h
    · rename_i z
      split at h
      · exact .inl ⟨v, z.length, rfl, by rw [dq_str (rp_d q1)]; exact ⟨by assumption, rfl⟩, gok r h (.d (.int _))⟩
      · exact h.elim
    · rename_i ks
      cases q1 with
      | @dct a kvs _ e1 e2 =>
        have l := Paired.length e2
        refine .inr ⟨a, kvs, rfl, (of_mask e1).2, ?_⟩
        rw [l]
        exact gok r h (.d (.int _))
    · split at h
      · rename_i us e
        obtain ⟨a, vs, rfl, sq, rr⟩ := seq_ok r q1 e
        have l := Paired.length rr
        refine .inl ⟨.ref a, us.length, rfl, ?_, gok r h (.d (.int _))⟩
        rcases sq with sq | sq
        · exact .inl ⟨vs, sq, l.symm⟩
        · exact .inr ⟨vs, sq, l.symm⟩
      · split at h
        · rename_i n _ _ _
          split at h
          · rename_i ks e1
            cases q1 with
            | @loc _ a e2 =>
              obtain ⟨a', e3, kvs, e4, e5⟩ := r.cell n _ e1
              rw [e2] at e3; cases e3
              have l := Paired.length e5
              refine .inr ⟨a, kvs, rfl, e4, ?_⟩
              rw [l]
              exact gok r h (.d (.int _))
          · exact h.elim
        · exact h.elim
  · exact h.elim
def Va.kind (L : LH) : Va → Option String
  | .d .none => some "NoneType"
  | .d (.bool _) => some "bool"
  | .d (.int _) => some "int"
  | .d (.str _) => some "str"
  | .d (.list _) => some "list"
  | .d (.tuple _) => some "tuple"
  | .d (.dict _) => some "dict"
  | .tup _ => some "tuple"
  | .dct _ => some "dict"
  | .loc n => match L[n]? with
    | some (some (.lst _)) => some "list"
    | some (some (.di _)) => some "dict"
    | some (some (.dt _)) => some "dict"
    | _ => none
  | _ => none
def isKind (a T : String) : Bool := a == T || (a == "bool" && T == "int")
def kinds : List String := ["NoneType", "bool", "int", "str", "list", "tuple", "dict"]
theorem kind_mem {L : LH} {w : Va} {k : String} (e : w.kind L = some k) : k ∈ kinds := by
  unfold Va.kind at e
  split at e <;> first | (cases e; decide) | (split at e <;> first | (cases e; decide) | cases e) | cases e
theorem kind_ok {K : PySem.W.Frag} {mg : Str → Option Value} {H : Hp} {al T : List Addr} {L : LH} (r : Rel K mg H al T L) {v : V} {w : Va} {k : String} (q : Rp K mg (mask H (al ++ T)) al v w) (e : w.kind L = some k) : TyX K H v (.type k) := by
  unfold Va.kind at e
  split at e
  · cases e; rw [dq_non (rp_d q)]; exact .base .non
  · cases e; rw [dq_bl (rp_d q)]; exact .base (.bl _)
  · cases e; rw [dq_int (rp_d q)]; exact .base (.int _)
  · cases e; rw [dq_str (rp_d q)]; exact .base (.str _)
  · cases e; obtain ⟨a, vs, rfl, e1, _⟩ := dq_lst (rp_d q); exact .base (.lst (of_mask e1).2)
  · cases e; obtain ⟨a, vs, rfl, e1, _⟩ := dq_tup (rp_d q); exact .base (.tup (of_mask e1).2)
  · exact nomatch (rp_d q)
  · cases e
    cases q with
    | tup e1 _ => exact .base (.tup (of_mask e1).2)
  · cases e
    cases q with
    | dct e1 _ => exact .base (.dK (of_mask e1).2)
  · rename_i n
    cases q with
    | @loc _ a e2 =>
      split at e
      · rename_i ws e1
        cases e
        obtain ⟨a', e3, kvs, e4, e5⟩ := r.cell n _ e1
        rw [e2] at e3; cases e3
        exact .base (.lst e4)
      · rename_i ws e1
        cases e
        obtain ⟨a', e3, kvs, e4, e5⟩ := r.cell n _ e1
        rw [e2] at e3; cases e3
        exact .base (.dK e4)
      · rename_i ws e1
        cases e
        obtain ⟨a', e3, kvs, e4, e5⟩ := r.cell n _ e1
        rw [e2] at e3; cases e3
        exact .base (.dT e4)
      · cases e
  · cases e
def eIsi (T : String) (f : EF) : EF := fun env L => (f env L).bind fun w L1 => match w.kind L1 with
  | some k => .ok (.d (.bool (isKind k T))) L1
  | none => .stuck
theorem se_isi {y : Str} {q : Pos} {f : EF} (hg : Gl X "isinstance") (hm : X.mg "isinstance" = none) (hg2 : Gl X y) (hm2 : X.mg y = none) (hv2 : bootBuiltins y = some (.type T)) (hk : ∀ k ∈ kinds, kitB k T = some (isKind k T)) (ha : SE X Wx e f)
    (hn2 : y ≠ "__name__" := by decide) (hd2 : (y == ("__debug__" : Str)) = false := by decide)
    (he : starEach (e :: [.Name y q]) X.env = (false, eval e X.env) :: starEach [.Name y q] X.env := by rfl) : SE X Wx (.Call (.Name "isinstance" p) [e, .Name y q] [] pos) (eIsi T f) := by
  refine PE.imp (pe_callB call_isi hg hm (by decide +kernel) (pa_cons ha (pa_cons (pe_bltn (v := .ty T) hg2 hm2 hv2 rfl hn2 hd2) pa_nil) he) (by decide) (by decide) he rfl) ?_
  rintro σ H Q ⟨env, L, al, T', c, h⟩
  refine rseq (R := RV X) c h fun v H1 w L1 al1 c1 s1 r1 q1 => ?_
  split at q1
  · rename_i k ek
    exact ⟨v, .ty T, .type k, .type T, isKind k T, rfl, .ty T, kind_ok c1.rel r1 ek, kit_ty (hk k (kind_mem ek)), gok c1.rel q1 (.d (.bl _))⟩
  · exact q1.elim
theorem kit_int : ∀ k ∈ kinds, kitB k "int" = some (isKind k "int") := by decide +kernel
theorem kit_bool : ∀ k ∈ kinds, kitB k "bool" = some (isKind k "bool") := by decide +kernel
theorem kit_tuple : ∀ k ∈ kinds, kitB k "tuple" = some (isKind k "tuple") := by decide +kernel
def boolsOf : List Va → Option (List Bool)
  | [] => some []
  | .d (.bool b) :: r => (boolsOf r).map (b :: ·)
  | _ :: _ => none
@[simp] theorem boolsOf_nil : boolsOf [] = some [] := (rfl)
@[simp] theorem boolsOf_map (bs : List Bool) : boolsOf (bs.map fun b => Va.d (.bool b)) = some bs := by
  induction bs with
  | nil => rfl
  | cons b r ih => simp only [List.map_cons, boolsOf, ih]; rfl
theorem bools_ok {K : PySem.W.Frag} {mg : Str → Option Value} {M : Hp} {al : List Addr} : ∀ {vs : List V} {ws : List Va} {bs : List Bool}, Rps K mg M al vs ws → boolsOf ws = some bs → vs = bs.map V.bl
  | _, _, bs, .nil, h => by cases h; rfl
  | _, .d (.bool b) :: ws, bs, .cons q r, h => by
    simp only [boolsOf] at h
    cases e : boolsOf ws with
    | none => rw [e] at h; cases h
    | some cs => rw [e] at h; cases h; rw [bools_ok r e, dq_bl (rp_d q)]; rfl
  | _, .d .none :: _, _, .cons _ _, h => by cases h
  | _, .d (.int _) :: _, _, .cons _ _, h => by cases h
  | _, .d (.str _) :: _, _, .cons _ _, h => by cases h
  | _, .d (.list _) :: _, _, .cons _ _, h => by cases h
  | _, .d (.tuple _) :: _, _, .cons _ _, h => by cases h
  | _, .d (.dict _) :: _, _, .cons _ _, h => by cases h
  | _, .loc _ :: _, _, .cons _ _, h => by cases h
  | _, .tup _ :: _, _, .cons _ _, h => by cases h
  | _, .dct _ :: _, _, .cons _ _, h => by cases h
  | _, .exc _ _ :: _, _, .cons _ _, h => by cases h
  | _, .scr _ :: _, _, .cons _ _, h => by cases h
def vaInts : List Va → Option (List Int)
  | [] => some []
  | .d (.int b) :: r => (vaInts r).map (b :: ·)
  | _ :: _ => none
@[simp] theorem vaInts_nil : vaInts [] = some [] := (rfl)
@[simp] theorem vaInts_map (bs : List Int) : vaInts (bs.map fun b => Va.d (.int b)) = some bs := by
  induction bs with
  | nil => rfl
  | cons b r ih => simp only [List.map_cons, vaInts, ih]; rfl
theorem ints_ok {K : PySem.W.Frag} {mg : Str → Option Value} {M : Hp} {al : List Addr} : ∀ {vs : List V} {ws : List Va} {bs : List Int}, Rps K mg M al vs ws → vaInts ws = some bs → vs = bs.map V.int
  | _, _, bs, .nil, h => by cases h; rfl
  | _, .d (.int b) :: ws, bs, .cons q r, h => by
    simp only [vaInts] at h
    cases e : vaInts ws with
    | none => rw [e] at h; cases h
    | some cs => rw [e] at h; cases h; rw [ints_ok r e, dq_int (rp_d q)]; rfl
  | _, .d .none :: _, _, .cons _ _, h => by cases h
  | _, .d (.bool _) :: _, _, .cons _ _, h => by cases h
  | _, .d (.str _) :: _, _, .cons _ _, h => by cases h
  | _, .d (.list _) :: _, _, .cons _ _, h => by cases h
  | _, .d (.tuple _) :: _, _, .cons _ _, h => by cases h
  | _, .d (.dict _) :: _, _, .cons _ _, h => by cases h
  | _, .loc _ :: _, _, .cons _ _, h => by cases h
  | _, .tup _ :: _, _, .cons _ _, h => by cases h
  | _, .dct _ :: _, _, .cons _ _, h => by cases h
  | _, .exc _ _ :: _, _, .cons _ _, h => by cases h
  | _, .scr _ :: _, _, .cons _ _, h => by cases h
def one (ws : List Va) (L : LH) (k : List Va → Res Va) : Res Va := match ws with
  | [w] => match w.items L with
    | some us => k us
    | none => .stuck
  | _ => .stuck
theorem one_ok {H : Hp} {al T : List Addr} {L : LH} {σ : St} {xs : List V} {ws : List Va} {k : List Va → Res Va} {Q : VK} (r : Rel X.K X.mg H al T L) (q : RVs X (mask H (al ++ T)) al xs ws) (h : GPost X Wx σ H al T L (RV X) (one ws L k) Q) :
    ∃ a vs us, xs = [.ref a] ∧ H a = some (.lst vs) ∧ RVs X (mask H (al ++ T)) al vs us ∧ GPost X Wx σ H al T L (RV X) (k us) Q := by
  unfold one at h
  split at h
  · obtain ⟨v, rfl, q1⟩ := rps_1 q
    split at h
    · rename_i us e
      obtain ⟨a, vs, rfl, f1, d1⟩ := items_ok r q1 e
      exact ⟨a, vs, us, rfl, f1, d1, h⟩
    · exact h.elim
  · exact h.elim
def cAll : List Va → LH → Res Va := fun ws L => one ws L fun us => match boolsOf us with
  | some bs => .ok (.d (.bool (bs.all _root_.id))) L
  | none => .stuck
def cSum : List Va → LH → Res Va := fun ws L => one ws L fun us => match vaInts us with
  | some ns => .ok (.d (.int ns.sum)) L
  | none => .stuck
def minI : List Int → Option Int
  | [] => none
  | a :: r => some (r.foldl (fun m x => if x < m then x else m) a)
theorem minI_fold : ∀ (r : List Int) (a : Int), (r.foldl (fun m x => if x < m then x else m) a = a ∨ r.foldl (fun m x => if x < m then x else m) a ∈ r) ∧ r.foldl (fun m x => if x < m then x else m) a ≤ a ∧ ∀ y ∈ r, r.foldl (fun m x => if x < m then x else m) a ≤ y
  | [], a => by simp
  | x :: r, a => by
    have h := minI_fold r (if x < a then x else a)
    simp only [List.foldl_cons]
    by_cases c : x < a
    · rw [if_pos c] at h ⊢
      refine ⟨.inr ?_, by omega, fun y hy => ?_⟩
      · rcases h.1 with e | e
        · rw [e]; exact List.mem_cons_self
        · exact List.mem_cons_of_mem _ e
      · rcases List.mem_cons.mp hy with e | e
        · rw [e]; exact h.2.1
        · exact h.2.2 y e
    · rw [if_neg c] at h ⊢
      refine ⟨h.1.imp id fun e => List.mem_cons_of_mem _ e, h.2.1, fun y hy => ?_⟩
      rcases List.mem_cons.mp hy with e | e
      · rw [e]; have := h.2.1; omega
      · exact h.2.2 y e
theorem minI_spec {ns : List Int} {m : Int} (h : minI ns = some m) : m ∈ ns ∧ ∀ y ∈ ns, m ≤ y := by
  cases ns with
  | nil => cases h
  | cons a r =>
    cases h
    have h := minI_fold r a
    refine ⟨?_, fun y hy => ?_⟩
    · rcases h.1 with e | e
      · rw [e]; exact List.mem_cons_self
      · exact List.mem_cons_of_mem _ e
    · rcases List.mem_cons.mp hy with e | e
      · rw [e]; exact h.2.1
      · exact h.2.2 y e
theorem minI_pos {ns : List Int} {m : Int} (h : minI ns = some m) : 0 < ns.length := by
  cases ns with
  | nil => cases h
  | cons a r => simp
theorem ok_all : OkC X (rAll X.K) cAll := by
  intro Wx σ H al T L xs ws Q r q h
  obtain ⟨a, vs, us, rfl, f1, d1, h⟩ := one_ok r q h
  split at h
  · rename_i bs e
    have := bools_ok d1 e
    subst this
    exact ⟨a, bs, rfl, SqL.of f1, gok r h (.d (.bl _))⟩
  · exact h.elim
theorem ok_sum : OkC X (rSum X.K) cSum := by
  intro Wx σ H al T L xs ws Q r q h
  obtain ⟨a, vs, us, rfl, f1, d1, h⟩ := one_ok r q h
  split at h
  · rename_i bs e
    have := ints_ok d1 e
    subst this
    exact ⟨a, bs, rfl, SqL.of f1, gok r h (.d (.int _))⟩
  · exact h.elim
def cMin2 : List Va → LH → Res Va := fun ws L => match ws with
  | [.d (.int i), .d (.int j)] => .ok (.d (.int (if j < i then j else i))) L
  | _ => .stuck
def cMax2 : List Va → LH → Res Va := fun ws L => match ws with
  | [.d (.int i), .d (.int j)] => .ok (.d (.int (if j > i then j else i))) L
  | _ => .stuck
theorem ok_min2 : OkC X (fun xs H Q => ∃ i j, xs = [.int i, .int j] ∧ Q (.int (if j < i then j else i)) H) cMin2 := by
  intro Wx σ H al T L xs ws Q r q h
  unfold cMin2 at h
  split at h
  · obtain ⟨v, y, rfl, q1, q2⟩ := rps_2 q
    exact ⟨_, _, by rw [dq_int (rp_d q1), dq_int (rp_d q2)], gok r h (.d (.int _))⟩
  · exact h.elim
theorem ok_max2 : OkC X (fun xs H Q => ∃ i j, xs = [.int i, .int j] ∧ Q (.int (if j > i then j else i)) H) cMax2 := by
  intro Wx σ H al T L xs ws Q r q h
  unfold cMax2 at h
  split at h
  · obtain ⟨v, y, rfl, q1, q2⟩ := rps_2 q
    exact ⟨_, _, by rw [dq_int (rp_d q1), dq_int (rp_d q2)], gok r h (.d (.int _))⟩
  · exact h.elim
def cInt : List Va → LH → Res Va := fun ws L => match ws with
  | [.d (.int i)] => .ok (.d (.int i)) L
  | [.d (.bool b)] => .ok (.d (.int (if b then 1 else 0))) L
  | _ => .stuck
theorem ok_int : OkC X (fun xs H Q => (∃ i, xs = [.int i] ∧ Q (.int i) H) ∨ ∃ k, xs = [.bl k] ∧ Q (.int (if k then 1 else 0)) H) cInt := by
  intro Wx σ H al T L xs ws Q r q h
  unfold cInt at h
  split at h
  · obtain ⟨v, rfl, q1⟩ := rps_1 q
    exact .inl ⟨_, by rw [dq_int (rp_d q1)], gok r h (.d (.int _))⟩
  · obtain ⟨v, rfl, q1⟩ := rps_1 q
    exact .inr ⟨_, by rw [dq_bl (rp_d q1)], gok r h (.d (.int _))⟩
  · exact h.elim
def cStr : List Va → LH → Res Va := fun ws L => match ws with
  | [.d (.int i)] => if i.natAbs.log2 < 1920 then .ok (.d (.str (toString i))) L else .stuck
  | _ => .stuck
def cList : List Va → LH → Res Ob := fun ws L => match ws with
  | [w] => match w.seq L with
    | some us => .ok (.lst us) L
    | none => .stuck
  | _ => .stuck
def cTuple : List Va → LH → Res Va := fun ws L => match ws with
  | [.d (.tuple xs)] => .ok (.d (.tuple xs)) L
  | [w] => match w.items L with
    | some us => .ok (mkTup us) L
    | none => .stuck
  | _ => .stuck
theorem ok_tuple : OkC X (fun xs H Q => ∃ p ys, xs = [.ref p] ∧ ((SqL X.K H p ys ∧ ∀ l, H l = none → Q (.ref l) (upd H l (.tup ys))) ∨ (SqT X.K H p ys ∧ Q (.ref p) H))) cTuple := by
  intro Wx σ H al T L xs ws Q r q h
  unfold cTuple at h
  split at h
  · obtain ⟨v, rfl, q1⟩ := rps_1 q
    obtain ⟨a, vs, rfl, e1, d1⟩ := dq_tup (rp_d q1)
    exact ⟨a, vs, rfl, .inr ⟨SqT.of (of_mask e1).2, gok r h q1⟩⟩
  · obtain ⟨v, rfl, q1⟩ := rps_1 q
    split at h
    · rename_i us e
      obtain ⟨a, vs, rfl, f1, d1⟩ := items_ok r q1 e
      exact ⟨a, vs, rfl, .inl ⟨SqL.of f1, gnew r h fun p hp e m e' => rp_mkTup e' (Rps.le m (ALe.refl _) d1)⟩⟩
    · exact h.elim
  · exact h.elim
end
end L2.HW
namespace L2.HW
open PySem PySem.Spec PyProof.Rows
section
variable {K : PySem.W.Frag} {mg : Str → Option Value} {H : Hp} {al T : List Addr} {L : LH}
theorem mask_in {a : Addr} {o : HO} {P : List Addr} (h : a ∈ P) : mask (upd H a o) P = mask H P := by
  funext b
  unfold mask
  by_cases q : b ∈ P
  · rw [if_pos q, if_pos q]
  · rw [if_neg q, if_neg q, upd_ne]
    rintro rfl
    exact q h
theorem Rel.write (r : Rel K mg H al T L) {n : Nat} {a : Addr} {ob ob' : Ob} {o : HO} (e1 : al[n]? = some a) (e2 : L[n]? = some (some ob)) (q : ObR K mg (mask H (al ++ T)) al (upd H a o) a ob') : Stp K mg H al T L (upd H a o) al T (L.set n (some ob')) := by
  have ha : a ∈ al := List.mem_of_getElem? e1
  have m : mask (upd H a o) (al ++ T) = mask H (al ++ T) := mask_in (List.mem_append_left _ ha)
  have hn : n < L.length := (List.getElem?_eq_some_iff.mp e2).1
  refine ⟨⟨by simp [r.len], r.nd, r.dis, fun b h => ?_, fun k ob1 e => ?_⟩, ⟨[], by simp, fun _ z => nomatch z⟩, ⟨[], by simp, fun _ z => nomatch z⟩, fun b u e z => ?_, fun b e => ?_, fun k e => ?_, fun k ob1 e => ?_⟩
  · by_cases z : b = a
    · subst z; rw [upd_same]; simp
    · rw [upd_ne z]; exact r.trk b h
  · rw [m]
    by_cases z : k = n
    · subst z
      rw [List.getElem?_set_self hn] at e
      cases e
      exact ⟨a, e1, q⟩
    · rw [List.getElem?_set_ne (Ne.symm z)] at e
      obtain ⟨b, e3, q3⟩ := r.cell k ob1 e
      have : b ≠ a := by
        rintro rfl
        obtain ⟨h1, h2⟩ := List.getElem?_eq_some_iff.mp e1
        obtain ⟨h3, h4⟩ := List.getElem?_eq_some_iff.mp e3
        exact z ((List.getElem_inj r.nd).mp (h4.trans h2.symm))
      exact ⟨b, e3, ObR.le (Le.refl _) (ALe.refl _) (fun _ z => by rw [upd_ne this]; exact z) q3⟩
  · rw [upd_ne]
    · exact e
    · rintro rfl
      exact z ⟨n, ob, e1, e2⟩
  · by_cases z : b = a
    · subst z; rw [upd_same]; simp
    · rw [upd_ne z]; exact e
  · by_cases z : k = n
    · subst z; rw [e2] at e; cases e
    · rw [List.getElem?_set_ne (Ne.symm z)]; exact e
  · by_cases z : k = n
    · subst z; rw [List.getElem?_set_self hn]; exact ⟨_, rfl⟩
    · rw [List.getElem?_set_ne (Ne.symm z)]; exact ⟨_, e⟩
end
inductive Out where
  | nx (env : En) (L : LH)
  | rt (w : Va) (L : LH)
  | rf (o : Ob) (L : LH)
  | bk (env : En) (L : LH)
  | ct (env : En) (L : LH)
  | exc (c : Str) (f : Option PyData) (env : En) (L : LH)
  | stuck
def Res.then {α : Type} (r : Res α) (env : En) (k : α → LH → Out) : Out := match r with
  | .ok a L => k a L
  | .exc c f L => .exc c f env L
  | .stuck => .stuck
@[simp] theorem then_ok {α : Type} (a : α) (L : LH) (env : En) (k : α → LH → Out) : (Res.ok a L).then env k = k a L := (rfl)
@[simp] theorem then_exc {α : Type} (c : Str) (f : Option PyData) (L : LH) (env : En) (k : α → LH → Out) : (Res.exc c f L : Res α).then env k = .exc c f env L := (rfl)
@[simp] theorem then_stuck {α : Type} (env : En) (k : α → LH → Out) : (Res.stuck : Res α).then env k = .stuck := (rfl)
abbrev SFn := En → LH → Out
def SPost (X : Cx) (Wx : WX) (H : Hp) (al T : List Addr) (L : LH) (r : Out) (D : Ends) : Prop :=
  match r with
  | .nx env' L' => ∀ σ' H' al', Stp X.K X.mg H al T L H' al' T L' → Conf X.K X.mg σ' H' env' L' al' T → D.nx σ' H'
  | .rt w L' => ∀ v H' al', Stp X.K X.mg H al T L H' al' T L' → RV X (mask H' (al' ++ T)) al' v w → D.rt v H'
  | .rf o L' => ∀ a H' al', H a = none → Stp X.K X.mg H al T L H' al' (a :: T) L' → ObR X.K X.mg (mask H' (al' ++ (a :: T))) al' H' a o → D.rt (.ref a) H'
  | .bk env' L' => ∀ σ' H' al', Stp X.K X.mg H al T L H' al' T L' → Conf X.K X.mg σ' H' env' L' al' T → D.bk σ' H'
  | .ct env' L' => ∀ σ' H' al', Stp X.K X.mg H al T L H' al' T L' → Conf X.K X.mg σ' H' env' L' al' T → D.ct σ' H'
  | .exc c f env' L' => ∀ cls d σ' H' al', Stp X.K X.mg H al T L H' al' T L' → Conf X.K X.mg σ' H' env' L' al' T → ExR X.mg (mask H' (al' ++ T)) c f cls d → Wx cls d σ' H'
  | .stuck => False
def SRdg (X : Cx) (Wx : WX) (f : SFn) : TS := fun D σ H => ∃ env L al T, Conf X.K X.mg σ H env L al T ∧ SPost X Wx H al T L (f env L) D
def SS (X : Cx) (Wx : WX) (st : Stmt) (f : SFn) : Prop := PS X st (SRdg X Wx f)
def SB (X : Cx) (Wx : WX) (st : List Stmt) (f : SFn) : Prop := PSs X st (SRdg X Wx f)
section
variable {X : Cx} {Wx : WX} {σ : St} {H H1 : Hp} {al al1 T : List Addr} {L L1 : LH}
theorem Stp.back {K : PySem.W.Frag} {mg : Str → Option Value} {T1 : List Addr} (s : Stp K mg H al T L H1 al1 T1 L1) {b : Addr} (h : H1 b = none) : H b = none := by
  cases e : H b with
  | none => rfl
  | some o => exact absurd h (s.stay b (by rw [e]; simp))
theorem SPost.on (hl : al.length = L.length) (s : Stp X.K X.mg H al T L H1 al1 T L1) {r : Out} {D : Ends} (h : SPost X Wx H al T L r D) : SPost X Wx H1 al1 T L1 r D := by
  cases r with
  | nx env' L' => exact fun σ' H' al' t c => h σ' H' al' (Stp.trans hl s t) c
  | rt w L' => exact fun v H' al' t c => h v H' al' (Stp.trans hl s t) c
  | rf o L' => exact fun a H' al' ha t c => h a H' al' (s.back ha) (Stp.trans hl s t) c
  | bk env' L' => exact fun σ' H' al' t c => h σ' H' al' (Stp.trans hl s t) c
  | ct env' L' => exact fun σ' H' al' t c => h σ' H' al' (Stp.trans hl s t) c
  | exc c f env' L' => exact fun cls d σ' H' al' t c => h cls d σ' H' al' (Stp.trans hl s t) c
  | stuck => exact h
theorem sseq {α β : Type} {R : Hp → List Addr → β → α → Prop} {env : En} {f : En → LH → Res α} {k : α → LH → Out} {D : Ends} {Q' : β → Hp → Prop}
    (c : Conf X.K X.mg σ H env L al T) (h : SPost X Wx H al T L ((f env L).then env k) D)
    (hk : ∀ b H1 a L1 al1, Conf X.K X.mg σ H1 env L1 al1 T → Stp X.K X.mg H al T L H1 al1 T L1 → R (mask H1 (al1 ++ T)) al1 b a → SPost X Wx H1 al1 T L1 (k a L1) D → Q' b H1) : Rdg X Wx R f σ H Q' := by
  refine ⟨env, L, al, T, c, ?_⟩
  revert h
  generalize f env L = r
  intro g
  cases r with
  | stuck => exact g
  | exc c' f L1 => exact fun cls d H' al' s e => g cls d σ H' al' s (c.stp s) e
  | ok b L1 => exact fun b' H1 al1 s1 q1 => hk b' H1 b L1 al1 (c.stp s1) s1 q1 (SPost.on c.rel.len s1 g)
theorem sok (c : Conf X.K X.mg σ H env L al T) {D : Ends} (h : SPost X Wx H al T L (.nx env L) D) : D.nx σ H := h σ H al (Stp.refl c.rel) c
def sNil : SFn := fun env L => .nx env L
def sSeq (f g : SFn) : SFn := fun env L => match f env L with
  | .nx env1 L1 => g env1 L1
  | o => o
theorem sb_nil : SB X Wx [] sNil := PSs.imp pss_nil fun D σ H ⟨env, L, al, T, c, h⟩ => sok c h
theorem sb_cons {st : Stmt} {rest : List Stmt} {f g : SFn} (h1 : SS X Wx st f) (h2 : SB X Wx rest g) : SB X Wx (st :: rest) (sSeq f g) := by
  refine PSs.imp (pss_cons h1 h2) ?_
  rintro D σ H ⟨env, L, al, T, c, h⟩
  refine ⟨env, L, al, T, c, ?_⟩
  unfold sSeq at h
  revert h
  generalize f env L = r
  intro h
  cases r with
  | nx env1 L1 => exact fun σ' H' al' s c' => ⟨env1, L1, al', T, c', SPost.on c.rel.len s h⟩
  | rt w L' => exact h
  | rf o L' => exact h
  | bk env' L' => exact h
  | ct env' L' => exact h
  | exc c' f' env' L' => exact h
  | stuck => exact h
theorem sb_one {st : Stmt} {f : SFn} (h1 : SS X Wx st f) : SB X Wx [st] f := PSs.imp (pss_one h1) fun D σ H h => h
def sPass : SFn := sNil
def sBreak : SFn := fun env L => .bk env L
def sCont : SFn := fun env L => .ct env L
theorem ss_break {pos : Pos} : SS X Wx (.Break pos) sBreak := PS.imp ps_break fun D σ H ⟨env, L, al, T, c, h⟩ => h σ H al (Stp.refl c.rel) c
def sExpr (f : EF) : SFn := fun env L => (f env L).then env fun _ L1 => .nx env L1
theorem ss_expr {e : Expr} {pos : Pos} {f : EF} (he : SE X Wx e f) (hs : swapsWith e none pos.line X.env = pure false := by rfl) : SS X Wx (.Expr e pos) (sExpr f) := by
  refine PS.imp (ps_expr he hs) ?_
  rintro D σ H ⟨env, L, al, T, c, h⟩
  exact sseq (R := RV X) c h fun v H1 w L1 al1 c1 s1 r1 h1 => sok c1 h1
def sRet (f : EF) : SFn := fun env L => (f env L).then env fun w L1 => .rt w L1
theorem ss_ret {e : Expr} {pos : Pos} {f : EF} (he : SE X Wx e f) : SS X Wx (.Return (some e) pos) (sRet f) := by
  refine PS.imp (ps_ret he) ?_
  rintro D σ H ⟨env, L, al, T, c, h⟩
  exact sseq (R := RV X) c h fun v H1 w L1 al1 c1 s1 r1 h1 => h1 v H1 al1 (Stp.refl c1.rel) r1
def sRetN : SFn := fun _ L => .rt (.d .none) L
def sRetF (g : En → LH → Res Ob) : SFn := fun env L => (g env L).then env fun o L1 => .rf o L1
theorem ss_retF {e : Expr} {pos : Pos} {g : En → LH → Res Ob} (he : SF X Wx e g) : SS X Wx (.Return (some e) pos) (sRetF g) := by
  refine PS.imp (ps_ret he) ?_
  rintro D σ H ⟨env, L, al, T, c, h⟩
  refine ⟨env, L, al, T, c, ?_⟩
  unfold sRetF at h
  revert h
  generalize g env L = r
  intro h
  cases r with
  | stuck => exact h
  | exc c' f L1 => exact fun cls d H' al' s e => h cls d σ H' al' s (c.stp s) e
  | ok o L1 => exact h
def sIf (t : En → LH → Res Bool) (f g : SFn) : SFn := fun env L => (t env L).then env fun b L1 => if b then f env L1 else g env L1
theorem ss_if {e : Expr} {a b : List Stmt} {pos : Pos} {t : En → LH → Res Bool} {f g : SFn} (ht : ST X Wx e t) (ha : SB X Wx a f) (hb : SB X Wx b g) : SS X Wx (.If e a b pos) (sIf t f g) := by
  refine PS.imp (ps_if ht ha hb) ?_
  rintro D σ H ⟨env, L, al, T, c, h⟩
  refine sseq (R := RB) c h fun v H1 w L1 al1 c1 s1 r1 h1 => ?_
  obtain rfl : v = w := r1
  cases v with
  | true => exact ⟨env, L1, al1, T, c1, h1⟩
  | false => exact ⟨env, L1, al1, T, c1, h1⟩
def sSet (i : Nat) (f : EF) : SFn := fun env L => (f env L).then env fun w L1 => .nx (env.set i (some w)) L1
theorem ss_set {i : Nat} {x : Str} {e : Expr} {pos pos' : Pos} {f : EF} (hN : X.N.Nodup) (hi : X.N[i]? = some x) (hx : Loc X.env.scope x) (he : SE X Wx e f) (hs : swapsWith e (some (.Name x pos')) pos.line X.env = pure false := by rfl)
    (hf : X.fn x = true ∨ X.env.scope.names.lookup x = some .local := by first | exact .inl rfl | exact .inr rfl | assumption) : SS X Wx (.Assign [.Name x pos'] e pos) (sSet i f) := by
  refine PS.imp (ps_set hN hi hx he hs hf) ?_
  rintro D σ H ⟨env, L, al, T, c, h⟩
  exact sseq (R := RV X) c h fun v H1 w L1 al1 c1 s1 r1 h1 => sok (c1.put r1) (SPost.on c1.rel.len (Stp.refl c1.rel) h1)
def sAug (i : Nat) (g : Int → Int → Int) (f : EF) : SFn := fun env L => match env[i]? with
  | some (some (.d (.int a))) => (f env L).then env fun w L1 => match w with
    | .d (.int b) => .nx (env.set i (some (.d (.int (g a b))))) L1
    | _ => .stuck
  | _ => .stuck
def TPost (X : Cx) (sl : List Nat) (σ : St) (H : Hp) (al T : List Addr) (L : LH) (r : Res En) (Q : St → Hp → Prop) : Prop := match r with
  | .ok env' L' => ∀ σ' H' al', Stp X.K X.mg H al T L H' al' T L' → Conf X.K X.mg σ' H' env' L' al' T → Agr sl σ σ' → Q σ' H'
  | _ => False
def SG (X : Cx) (sl : List Nat) (tg : Expr) (g : Va → En → LH → Res En) : Prop := PG X tg fun v σ H Q => ∃ w env L al T, Conf X.K X.mg σ H env L al T ∧ RV X (mask H (al ++ T)) al v w ∧ TPost X sl σ H al T L (g w env L) Q
def SGs (X : Cx) (sl : List Nat) (ts : List Expr) (g : List Va → En → LH → Res En) : Prop := PGs X ts fun vs σ H Q => ∃ ws env L al T, Conf X.K X.mg σ H env L al T ∧ RVs X (mask H (al ++ T)) al vs ws ∧ TPost X sl σ H al T L (g ws env L) Q
theorem PG.imp {tg : Expr} {t t' : TG} (h : PG X tg t) (k : ∀ v σ H Q, t' v σ H Q → t v σ H Q) : PG X tg t' := ⟨fun pins s σ H v u Q I r q => h.run pins s σ H v u Q I r (k v σ H Q q)⟩
theorem PGs.imp {tg : List Expr} {t t' : TGs} (h : PGs X tg t) (k : ∀ v σ H Q, t' v σ H Q → t v σ H Q) : PGs X tg t' := ⟨fun pins s σ H v u Q I r q => h.run pins s σ H v u Q I r (k v σ H Q q)⟩
theorem PG.or {tg : Expr} {t u : TG} (h : PG X tg t) (k : PG X tg u) : PG X tg (fun v σ H Q => t v σ H Q ∨ u v σ H Q) := ⟨fun pins s σ H v w Q I r q => by
  rcases q with q | q
  · exact h.run pins s σ H v w Q I r q
  · exact k.run pins s σ H v w Q I r q⟩
theorem TPost.on (hl : al.length = L.length) (s : Stp X.K X.mg H al T L H1 al1 T L1) {sl : List Nat} {r : Res En} {Q : St → Hp → Prop} (h : TPost X sl σ H al T L r Q) : TPost X sl σ H1 al1 T L1 r Q := by
  cases r with
  | ok env' L' => exact fun σ' H' al' t c => h σ' H' al' (Stp.trans hl s t) c
  | exc c f L' => exact h
  | stuck => exact h
def tN (i : Nat) : Va → En → LH → Res En := fun w env L => .ok (env.set i (some w)) L
theorem sg_name {i : Nat} {x : Str} {pos : Pos} (hN : X.N.Nodup) (hi : X.N[i]? = some x) (hx : Loc X.env.scope x) (hf : X.fn x = true ∨ X.env.scope.names.lookup x = some .local := by first | exact .inl rfl | exact .inr rfl | assumption) : SG X [i] (.Name x pos) (tN i) :=
  PG.imp (pg_name hN hi hx hf) fun v σ H Q ⟨w, env, L, al, T, c, r, h⟩ => h _ H al (Stp.refl c.rel) (c.put r) (Agr.put i _ σ)
def tgNil : List Va → En → LH → Res En := fun ws env L => match ws with
  | [] => .ok env L
  | _ => .stuck
def tgCons (f : Va → En → LH → Res En) (g : List Va → En → LH → Res En) : List Va → En → LH → Res En := fun ws env L => match ws with
  | w :: r => (f w env L).bind fun env1 L1 => g r env1 L1
  | [] => .stuck
theorem sgs_nil : SGs X [] [] tgNil := PGs.imp pgs_nil fun v σ H Q ⟨w, env, L, al, T, c, r, h⟩ => by
  unfold tgNil at h
  split at h
  · cases r
    exact ⟨rfl, h _ H al (Stp.refl c.rel) c (Agr.refl _ _)⟩
  · exact h.elim
theorem sgs_cons {e : Expr} {es : List Expr} {f : Va → En → LH → Res En} {g : List Va → En → LH → Res En} {sl sl' : List Nat} (h1 : SG X sl e f) (h2 : SGs X sl' es g) (hs : (assignEach (e :: es) X.env).map (·.2) = assign e X.env :: (assignEach es X.env).map (·.2) := by rfl) : SGs X (sl ++ sl') (e :: es) (tgCons f g) :=
  PGs.imp (pgs_cons h1 h2 hs) fun vs σ H Q ⟨ws, env, L, al, T, c, r, h⟩ => by
    unfold tgCons at h
    split at h
    · rename_i w rest
      cases r with
      | cons ra rb =>
        refine ⟨_, _, rfl, w, env, L, al, T, c, ra, ?_⟩
        revert h
        generalize f w env L = r1
        intro h
        cases r1 with
        | ok env1 L1 =>
          intro σ' H' al' s c' ag
          refine ⟨rest, env1, L1, al', T, c', s.rps rb, ?_⟩
          have h := TPost.on c.rel.len s h
          revert h
          show TPost X (sl ++ sl') σ H' al' T L1 (g rest env1 L1) Q → TPost X sl' σ' H' al' T L1 (g rest env1 L1) Q
          generalize g rest env1 L1 = r2
          intro h
          cases r2 with
          | ok env2 L2 => exact fun σ2 H2 al2 s2 c2 ag2 => h σ2 H2 al2 s2 c2 (ag.trans ag2)
          | exc _ _ _ => exact h
          | stuck => exact h
        | exc _ _ _ => exact h
        | stuck => exact h
    · exact h.elim
def tTupT (n : Nat) (g : List Va → En → LH → Res En) : Va → En → LH → Res En := fun w env L => match w.seq L with
  | some ws => if ws.length = n then g ws env L else .stuck
  | none => .stuck
theorem sg_tup {es : List Expr} {k : Nat} {pos : Pos} {g : List Va → En → LH → Res En} {n : Nat} {sl : List Nat} (hc : X.calm = true) (h : SGs X sl es g) (hn : (assignEach es X.env).length = n := by rfl) (hst : (assignEach es X.env).findIdx? (·.1) = none := by rfl) : SG X sl (.Tuple es k pos) (tTupT n g) :=
  PG.imp (PG.or (pg_tup hc h hn hst) (pg_lst hc h hn hst)) fun v σ H Q ⟨w, env, L, al, T, c, r, q⟩ => by
    unfold tTupT at q
    split at q
    · rename_i ws e
      obtain ⟨a, vs, rfl, sq, rr⟩ := seq_ok c.rel r e
      have l := Paired.length rr
      split at q
      · rename_i hl
        rcases sq with sq | sq
        · exact .inr ⟨a, vs, rfl, sq, l.trans hl, ws, env, L, al, T, c, rr, q⟩
        · exact .inl ⟨a, vs, rfl, sq, l.trans hl, ws, env, L, al, T, c, rr, q⟩
      · exact q.elim
    · exact q.elim
def sAsg (f : EF) (g : Va → En → LH → Res En) : SFn := fun env L => (f env L).then env fun w L1 => match g w env L1 with
  | .ok env1 L2 => .nx env1 L2
  | _ => .stuck
theorem ss_asg {tg e : Expr} {pos : Pos} {f : EF} {g : Va → En → LH → Res En} {sl : List Nat} (he : SE X Wx e f) (hg : SG X sl tg g) (hs : swapsWithSole [tg] e pos.line X.env = pure false := by rfl) (hw : swappedStores [tg] e X.env = pure none := by rfl)
    (h1 : (assignEach [tg] X.env).map (·.2) = [assign tg X.env] := by rfl) : SS X Wx (.Assign [tg] e pos) (sAsg f g) := by
  refine PS.imp (ps_asg he hg hs hw h1) ?_
  rintro D σ H ⟨env, L, al, T, c, h⟩
  refine sseq (R := RV X) c h fun v H1 w L1 al1 c1 s1 r1 h2 => ?_
  refine ⟨w, env, L1, al1, T, c1, r1, ?_⟩
  revert h2
  generalize g w env L1 = r2
  intro h2
  cases r2 with
  | ok env1 L2 => exact fun σ' H' al' s c' _ => h2 σ' H' al' s c'
  | exc _ _ _ => exact h2
  | stuck => exact h2
def sPar (i j : Nat) (fs : En → LH → Res (List Va)) : SFn := fun env L => (fs env L).then env fun ws L1 => match ws with
  | [w, u] => .nx ((env.set i (some w)).set j (some u)) L1
  | _ => .stuck
theorem ss_par {i j : Nat} {x y : Str} {a b : Expr} {px py pt pos : Pos} {kt : Nat} {k2 : Nat} {pt2 : Pos} {fs : En → LH → Res (List Va)} (hc : X.calm = true) (hN : X.N.Nodup) (hi : X.N[i]? = some x) (hj : X.N[j]? = some y) (hij : i ≠ j)
    (hx : X.env.scope.names.lookup x = some .local) (hy : X.env.scope.names.lookup y = some .local) (ha : SA X Wx [a, b] fs)
    (hw : swappedStores [.Tuple [.Name x px, .Name y py] kt pt] (.Tuple [a, b] k2 pt2) X.env = pure (some [x, y]))
    (hs : swapsWithSole [.Tuple [.Name x px, .Name y py] kt pt] (.Tuple [a, b] k2 pt2) pos.line X.env = pure false := by rfl) :
    SS X Wx (.Assign [.Tuple [.Name x px, .Name y py] kt pt] (.Tuple [a, b] k2 pt2) pos) (sPar i j fs) := by
  refine PS.imp (ps_par hc hN hi hj hij hx hy ha hw hs) ?_
  rintro D σ H ⟨env, L, al, T, c, h⟩
  refine sseq (R := RVs X) c h fun v H1 w L1 al1 c1 s1 r1 h2 => ?_
  split at h2
  · obtain ⟨v, y, rfl, q1, q2⟩ := rps_2 r1
    exact ⟨v, y, rfl, sok ((c1.put q1).put q2) (SPost.on c1.rel.len (Stp.refl c1.rel) h2)⟩
  · exact h2.elim
def sPar3 (i j k : Nat) (fs : En → LH → Res (List Va)) : SFn := fun env L => (fs env L).then env fun ws L1 => match ws with
  | [w, u, z] => .nx (((env.set i (some w)).set j (some u)).set k (some z)) L1
  | _ => .stuck
def tIx (f g : EF) : Va → En → LH → Res En := fun v env L => (f env L).bind fun w L1 => (g env L1).bind fun u L2 => match w with
  | .loc n => match L2[n]?, u with
    | some (some (.lst ws)), .d (.int i) => match ixN ws.length i with
      | some j => .ok env (L2.set n (some (.lst (ws.set j v))))
      | none => .stuck
    | some (some (.di ks)), .d (.int i) => if ks.length < sizeLine then .ok env (L2.set n (some (.di (aput ks i v)))) else .stuck
    | some (some (.di [])), .d (.tuple xs) => match intsOf xs with
      | some ns => .ok env (L2.set n (some (.dt [(ns, v)])))
      | none => .stuck
    | some (some (.dt ks)), .d (.tuple xs) => match intsOf xs with
      | some ns => if ks.length < sizeLine then .ok env (L2.set n (some (.dt (aput ks ns v)))) else .stuck
      | none => .stuck
    | _, _ => .stuck
  | _ => .stuck
where
  aput {κ α : Type} [DecidableEq κ] (ks : List (κ × α)) (k : κ) (v : α) : List (κ × α) := if ks.any (fun kv => decide (kv.1 = k)) then ks.map (fun kv => if kv.1 = k then (kv.1, v) else kv) else ks ++ [(k, v)]
end
end L2.HW
namespace L2.HW
open PySem PySem.Spec PyProof.Rows
section
variable {X : Cx} {Wx : WX}
abbrev aput {κ α : Type} [DecidableEq κ] (ks : List (κ × α)) (k : κ) (v : α) : List (κ × α) := tIx.aput ks k v
theorem PSet.or {t u : TSet} (h : PSet X t) (k : PSet X u) : PSet X (fun o i v H Q => t o i v H Q ∨ u o i v H Q) := by
  intro pins s σ H o i v ov iv w Q I r1 r2 r3 q
  rcases q with q | q
  · exact h pins s σ H o i v ov iv w Q I r1 r2 r3 q
  · exact k pins s σ H o i v ov iv w Q I r1 r2 r3 q
def rSetD : TSet := fun o i v H Q => ∃ a H', o = .ref a ∧ DPut H a i v H' ∧ Q H'
theorem set_dict (hu : X.A.units + 1 < cLine) : PSet X rSetD := by
  intro pins s σ H o i v ov iv u Q I ro ri rv h
  obtain ⟨a, H', rfl, g, q⟩ := h
  obtain rfl : ov = Value.ref a := ro
  exact d_setItem hu I g ri rv fun s' I' => ⟨H', I', q⟩
def rSetD0 : TSet := fun o i v H Q => ∃ a b k, o = .ref a ∧ i = .ref b ∧ H a = some (.dK []) ∧ H b = some (.tup (k.map kV)) ∧ Q (upd H a (.dT [(k, v)]))
theorem set_dict0 (hu : X.A.units + 1 < cLine) : PSet X rSetD0 := by
  intro pins s σ H o i v ov iv u Q I ro ri rv h
  obtain ⟨a, b, k, rfl, rfl, h1, h2, q⟩ := h
  obtain rfl : ov = Value.ref a := ro
  obtain ⟨z, y, vs, rk, ob, es, ep, e1, e2, e3, e4, e5, e6⟩ := dk_of I.hok h1
  have hvs : vs = [] := by cases rk; rfl
  subst hvs
  have hes : es.toList = [] := by
    generalize es.toList = el at e5
    cases e5
    rfl
  have I' : Inv X pins σ (upd H a (.dT [])) s := I.write (t' := s.toks) (h' := s.heap) (by rw [h1]; trivial) (.inl rfl) (fun _ _ _ e => e) ⟨_, e1⟩
    ⟨Nat.zero_le _, y, [], .nil, ob, es, ep, e1, e2, e3, by rw [hes]; rfl, List.nodup_nil⟩
  have g : DPut (upd H a (.dT [])) a (.ref b) v (upd (upd H a (.dT [])) a (.dT (putK [] k v))) := DPut.t upd_same (by
    rw [upd_ne]
    · exact h2
    · rintro rfl; rw [h1] at h2; cases h2) (by rw [sizeLine_eq]; decide)
  refine d_setItem hu I' g ri rv fun s' I2 => ⟨_, I2, ?_⟩
  rw [upd_upd]
  exact q
theorem rps_set {K : PySem.W.Frag} {mg : Str → Option Value} {M : Hp} {al : List Addr} {v : V} {w : Va} (q : Rp K mg M al v w) : ∀ {vs : List V} {ws : List Va} (n : Nat), Rps K mg M al vs ws → Rps K mg M al (vs.set n v) (ws.set n w)
  | _, _, _, .nil => .nil
  | _, _, 0, .cons _ b => .cons q b
  | _, _, n + 1, .cons a b => .cons a (rps_set q n b)
theorem put_pair {κ κ' α : Type} [DecidableEq κ] [DecidableEq κ'] {f : κ → κ'} (hf : ∀ a b, f a = f b → a = b) {R : V → α → Prop} {ks : List (κ' × V)} {as : List (κ × α)} (r : Paired (fun (p : κ' × V) (q : κ × α) => p.1 = f q.1 ∧ R p.2 q.2) ks as) (k : κ) {v : V} {w : α} (q : R v w) :
    Paired (fun (p : κ' × V) (q : κ × α) => p.1 = f q.1 ∧ R p.2 q.2) (putK ks (f k) v) (aput as k w) := by
  have hany : (ks.any fun kv => decide (kv.1 = f k)) = as.any fun kv => decide (kv.1 = k) := by
    induction r with
    | nil => rfl
    | @cons p q ps qs h _ ih =>
      rw [List.any_cons, List.any_cons, ih]
      congr 1
      rw [h.1]
      by_cases e : q.1 = k
      · simp [e]
      · have e' : ¬ f q.1 = f k := fun z => e (hf _ _ z)
        rw [decide_eq_false e, decide_eq_false e']
  unfold putK aput tIx.aput
  rw [hany]
  by_cases c : (as.any fun kv => decide (kv.1 = k)) = true
  · rw [if_pos c, if_pos c]
    clear hany c
    induction r with
    | nil => exact .nil
    | @cons p q' ps qs h _ ih =>
      refine .cons ?_ ih
      show ((if p.1 = f k then (p.1, v) else p).1 = f (if q'.1 = k then (q'.1, w) else q').1 ∧ R (if p.1 = f k then (p.1, v) else p).2 (if q'.1 = k then (q'.1, w) else q').2)
      by_cases e : q'.1 = k
      · rw [if_pos e, if_pos (by rw [h.1, e])]
        exact ⟨by rw [h.1], q⟩
      · rw [if_neg e, if_neg (by rw [h.1]; exact fun z => e (hf _ _ z))]
        exact h
  · rw [if_neg c, if_neg c]
    clear hany c
    induction r with
    | nil => exact .cons ⟨rfl, q⟩ .nil
    | cons h _ ih => exact .cons h ih
theorem sg_ix {o i : Expr} {f g : EF} {pos : Pos} (hu : X.A.units + 1 < cLine) (ho : SE X (fun _ _ _ _ => False) o f) (hi : SE X (fun _ _ _ _ => False) i g)
    (ha : ∀ v, assign (.Subscript o i pos) X.env v = (do
      let ov ← holding [v] (eval o X.env)
      let iv ← holding [v, ov] (eval i X.env)
      standAt pos
      holding [v, ov, iv] (setItem ov iv v)
      release [v, ov, iv] []) := by intro _; rfl) : SG X [] (.Subscript o i pos) (tIx f g) := by
  refine PG.imp (pg_sub ho hi (PSet.or set_list (PSet.or (set_dict hu) (set_dict0 hu))) ha) ?_
  rintro v σ H Q ⟨w, env, L, al, T, c, r, h⟩
  unfold tIx at h
  have e1 : GPost X (fun _ _ _ _ => False) σ H al T L (RV X) (f env L) fun o H1 => Rdg X (fun _ _ _ _ => False) (RV X) g σ H1 fun i H2 => (fun o i v H Q => rSetL o i v H Q ∨ rSetD o i v H Q ∨ rSetD0 o i v H Q) o i v H2 fun H3 => Q σ H3 := by
    revert h
    generalize f env L = r1
    intro h
    cases r1 with
    | stuck => exact h
    | exc _ _ _ => exact h.elim
    | ok wo L1 =>
      intro ov H1 al1 s1 ro
      have c1 := c.stp s1
      refine ⟨env, L1, al1, T, c1, ?_⟩
      simp only [Res.bind_ok] at h
      revert h
      generalize g env L1 = r2
      intro h
      cases r2 with
      | stuck => exact h
      | exc _ _ _ => exact h.elim
      | ok wi L2 =>
        intro iv H2 al2 s2 ri
        have c2 := c1.stp s2
        have s12 := Stp.trans c.rel.len s1 s2
        have rv := s12.rp r
        have ro2 := s2.rp ro
        have h3 := TPost.on c.rel.len s12 h
        clear h
        simp only [Res.bind_ok] at h3
        split at h3
        · rename_i n
          cases ro2 with
          | @loc _ a e2 =>
            split at h3
            · rename_i ws i e4
              have ei := dq_int (rp_d ri)
              obtain ⟨a', e3, vs, e5, e6⟩ := c2.rel.cell n _ e4
              rw [e2] at e3; cases e3
              split at h3
              · rename_i j ej
                have st := c2.rel.write (o := .lst (vs.set j v)) (ob' := .lst (ws.set j w)) e2 e4 ⟨_, upd_same, rps_set rv j e6⟩
                exact .inl ⟨a, vs, i, j, rfl, ei, e5, by rw [Paired.length e6]; exact ej, h3 _ _ _ st (c2.stp st) (Agr.refl _ _)⟩
              · exact h3.elim
            · rename_i ks i e4
              have ei := dq_int (rp_d ri)
              obtain ⟨a', e3, vs, e5, e6⟩ := c2.rel.cell n _ e4
              rw [e2] at e3; cases e3
              split at h3
              · rename_i hl
                have st := c2.rel.write (o := .dK (putK vs (Sum.inl i) v)) (ob' := .di (aput ks i w)) e2 e4 ⟨_, upd_same, put_pair (f := (Sum.inl : Int → Key)) inl_inj e6 i rv⟩
                exact .inr (.inl ⟨a, _, rfl, by rw [ei]; exact DPut.k (k := Sum.inl i) e5 (by rw [Paired.length e6]; exact hl), h3 _ _ _ st (c2.stp st) (Agr.refl _ _)⟩)
              · exact h3.elim
            · rename_i xs e4
              obtain ⟨a', e3, vs, e5, e6⟩ := c2.rel.cell n _ e4
              rw [e2] at e3; cases e3
              cases e6
              split at h3
              · rename_i ns en
                rw [intsOf_eq en] at ri
                obtain ⟨b, us, rfl, f1, d1⟩ := dq_tup (rp_d ri)
                have g1 := dq_ints d1
                subst g1
                have st := c2.rel.write (o := .dT [(ns.map Sum.inl, v)]) (ob' := .dt [(ns, w)]) e2 e4 ⟨_, upd_same, .cons ⟨rfl, rv⟩ .nil⟩
                exact .inr (.inr ⟨a, b, ns.map Sum.inl, rfl, rfl, e5, by rw [List.map_map]; exact (of_mask f1).2, h3 _ _ _ st (c2.stp st) (Agr.refl _ _)⟩)
              · exact h3.elim
            · rename_i ks xs e4
              obtain ⟨a', e3, vs, e5, e6⟩ := c2.rel.cell n _ e4
              rw [e2] at e3; cases e3
              split at h3
              · rename_i ns en
                rw [intsOf_eq en] at ri
                obtain ⟨b, us, rfl, f1, d1⟩ := dq_tup (rp_d ri)
                have g1 := dq_ints d1
                subst g1
                split at h3
                · rename_i hl
                  have st := c2.rel.write (o := .dT (putK vs (ns.map Sum.inl) v)) (ob' := .dt (aput ks ns w)) e2 e4 ⟨_, upd_same, put_pair (f := fun ns : List Int => ns.map (Sum.inl : Int → Key)) map_inl_inj e6 ns rv⟩
                  exact .inr (.inl ⟨a, _, rfl, DPut.t (k := ns.map Sum.inl) e5 (by rw [List.map_map]; exact (of_mask f1).2) (by rw [Paired.length e6]; exact hl), h3 _ _ _ st (c2.stp st) (Agr.refl _ _)⟩)
                · exact h3.elim
              · exact h3.elim
            · exact h3.elim
        · exact h3.elim
  exact ⟨env, L, al, T, c, e1⟩
end
end L2.HW
namespace L2.HW
open PySem PySem.Spec PyProof.Rows
section
variable {K : PySem.W.Frag} {mg : Str → Option Value} {H H1 : Hp} {al al1 T T1 : List Addr} {L L1 : LH}
def lockL (lk : Option Nat) (L : LH) : LH := match lk with
  | some n => L.set n none
  | none => L
def openL (lk : Option Nat) (L0 L : LH) : LH := match lk with
  | some n => match L0[n]? with
    | some c => L.set n c
    | none => L
  | none => L
@[simp] theorem lockL_none (L : LH) : lockL none L = L := (rfl)
@[simp] theorem openL_none (L0 L : LH) : openL none L0 L = L := (rfl)
theorem Rel.lock (r : Rel K mg H al T L) (lk : Option Nat) : Rel K mg H al T (lockL lk L) := by
  cases lk with
  | none => exact r
  | some n =>
    refine ⟨by simp [lockL, r.len], r.nd, r.dis, r.trk, fun k o e => ?_⟩
    unfold lockL at e
    by_cases z : n = k
    · subst z
      by_cases hn : n < L.length
      · rw [List.getElem?_set_self hn] at e; cases e
      · rw [List.getElem?_eq_none (by simpa using hn)] at e; cases e
    · rw [List.getElem?_set_ne z] at e
      exact r.cell k o e
theorem Conf.lock {σ : St} {env : En} (c : Conf K mg σ H env L al T) (lk : Option Nat) : Conf K mg σ H env (lockL lk L) al T := ⟨c.rel.lock lk, c.len, c.slot⟩
theorem Stp.opened (r0 : Rel K mg H al T L) {lk : Option Nat} (s : Stp K mg H al T (lockL lk L) H1 al1 T1 L1) : Stp K mg H al T L H1 al1 T1 (openL lk L L1) := by
  cases lk with
  | none => exact s
  | some n =>
    simp only [openL]
    cases e0 : L[n]? with
    | none =>
      have : lockL (some n) L = L := by
        unfold lockL
        apply List.ext_getElem?
        intro k
        by_cases z : n = k
        · subst z
          rw [e0, List.getElem?_eq_none]
          have := List.getElem?_eq_none_iff.mp e0
          simpa using this
        · rw [List.getElem?_set_ne z]
      rw [this] at s
      simpa [e0] using s
    | some c =>
      have hn : n < L.length := (List.getElem?_eq_some_iff.mp e0).1
      have lkn : (lockL (some n) L)[n]? = some none := by unfold lockL; rw [List.getElem?_set_self hn]
      have l1n := s.lck n lkn
      have hn1 : n < L1.length := (List.getElem?_eq_some_iff.mp l1n).1
      have alvS : ∀ b, Alv al (lockL (some n) L) b → Alv al L b := fun b ⟨k, o, e1, e2⟩ => ⟨k, o, e1, by
        unfold lockL at e2
        by_cases z : n = k
        · subst z; rw [List.getElem?_set_self hn] at e2; cases e2
        · rw [List.getElem?_set_ne z] at e2; exact e2⟩
      obtain ⟨be, eb, fb⟩ := s.ext
      simp only
      refine ⟨⟨by simp [s.rel.len], s.rel.nd, s.rel.dis, s.rel.trk, fun k o e => ?_⟩, s.ext, s.text, fun b u e z => s.frame b u e fun q => z (alvS b q), s.stay, fun k e => ?_, fun k o e => ?_⟩
      · by_cases z : n = k
        · subst z
          rw [List.getElem?_set_self hn1] at e
          cases e
          obtain ⟨a, e1, q⟩ := r0.cell n o e0
          refine ⟨a, s.ale _ _ e1, ObR.le s.le s.ale (fun u h => s.frame a u h fun ⟨k, o', e2, e3⟩ => ?_) q⟩
          have : k = n := by
            obtain ⟨h1, h2⟩ := List.getElem?_eq_some_iff.mp e1
            obtain ⟨h3, h4⟩ := List.getElem?_eq_some_iff.mp e2
            exact (List.getElem_inj r0.nd).mp (h4.trans h2.symm)
          subst this
          rw [lkn] at e3; cases e3
        · rw [List.getElem?_set_ne z] at e
          exact s.rel.cell k o e
      · by_cases z : n = k
        · subst z
          rw [List.getElem?_set_self hn1]
          rw [e0] at e; cases e; rfl
        · rw [List.getElem?_set_ne z]
          exact s.lck k (by unfold lockL; rw [List.getElem?_set_ne z]; exact e)
      · by_cases z : n = k
        · subst z
          rw [List.getElem?_set_self hn1]
          rw [e0] at e; cases e; exact ⟨_, rfl⟩
        · rw [List.getElem?_set_ne z]
          exact s.alv k o (by unfold lockL; rw [List.getElem?_set_ne z]; exact e)
theorem Stp.updT {D : Addr} {o : HO} (hD : H D = none) (s : Stp K mg H al T L H1 al1 (D :: T) L1) : Stp K mg H al T L (upd H1 D o) al1 (D :: T) L1 := by
  have r := s.rel
  have m : mask (upd H1 D o) (al1 ++ (D :: T)) = mask H1 (al1 ++ (D :: T)) := mask_in (by simp)
  refine ⟨⟨r.len, r.nd, r.dis, fun b h => ?_, fun k ob e => ?_⟩, s.ext, s.text, fun b u e z => ?_, fun b e => ?_, s.lck, s.alv⟩
  · by_cases z : b = D
    · subst z; rw [upd_same]; simp
    · rw [upd_ne z]; exact r.trk b h
  · rw [m]
    obtain ⟨a, e1, q⟩ := r.cell k ob e
    have : a ≠ D := by
      rintro rfl
      exact r.dis a (List.mem_of_getElem? e1) List.mem_cons_self
    exact ⟨a, e1, ObR.le (Le.refl _) (ALe.refl _) (fun _ z => by rw [upd_ne this]; exact z) q⟩
  · rw [upd_ne]
    · exact s.frame b u e z
    · rintro rfl; rw [hD] at e; cases e
  · by_cases z : b = D
    · subst z; rw [upd_same]; simp
    · rw [upd_ne z]; exact s.stay b e
end

def Wlk (K : PySem.W.Frag) (mg : Str → Option Value) (H : Hp) (al T : List Addr) (L : LH) (J : It) (ws : List Va) : Prop :=
  ∀ H1 al1 T1 L1, Stp K mg H al T L H1 al1 T1 L1 → J.stop ws.length H1 ∧ ∀ i w, ws[i]? = some w → J.go i H1 ∧ ∀ x H2, J.yld i H1 x H2 → Stp K mg H1 al1 T1 L1 H2 al1 T1 L1 ∧ Rp K mg (mask H2 (al1 ++ T1)) al1 x w
abbrev Srcf := En → LH → Res (List Va × Option Nat)
def IPost (X : Cx) (Wx : WX) (σ : St) (H : Hp) (al T : List Addr) (L : LH) (r : Res (List Va × Option Nat)) (R : It → Hp → Prop) : Prop := match r with
  | .ok p L1 => ∀ J H1 al1, Stp X.K X.mg H al T L H1 al1 T L1 → Wlk X.K X.mg H1 al1 T (lockL p.2 L1) J p.1 → R J H1
  | .exc c f L1 => ∀ cls d H' al', Stp X.K X.mg H al T L H' al' T L1 → ExR X.mg (mask H' (al' ++ T)) c f cls d → Wx cls d σ H'
  | .stuck => False
def SI (X : Cx) (Wx : WX) (tg iter : Expr) (s : Srcf) : Prop := PI X tg iter fun σ H R => ∃ env L al T, Conf X.K X.mg σ H env L al T ∧ IPost X Wx σ H al T L (s env L) R
theorem PI.imp {X : Cx} {tg iter : Expr} {t t' : TI} (h : PI X tg iter t) (k : ∀ σ H R, t' σ H R → t σ H R) : PI X tg iter t' := ⟨fun pins s σ H R I q => h.run pins s σ H R I (k σ H R q)⟩
theorem PI.or {X : Cx} {tg iter : Expr} {t u : TI} (h : PI X tg iter t) (k : PI X tg iter u) : PI X tg iter (fun σ H R => t σ H R ∨ u σ H R) := ⟨fun pins s σ H R I q => by
  rcases q with q | q
  · exact h.run pins s σ H R I q
  · exact k.run pins s σ H R I q⟩
section
variable {X : Cx} {Wx : WX}
def srcOf (w : Va) (L : LH) : Option (List Va × Option Nat) := match w with
  | .loc n => match L[n]? with
    | some (some (.lst ws)) => some (ws, some n)
    | _ => none
  | .d (.list ds) => some (ds.map .d, none)
  | .d (.tuple ds) => some (ds.map .d, none)
  | .tup ws => some (ws, none)
  | _ => none
def srcV (f : EF) : Srcf := fun env L => (f env L).bind fun w L1 => match srcOf w L1 with
  | some p => .ok p L1
  | none => .stuck
theorem rps_get {K : PySem.W.Frag} {mg : Str → Option Value} {M : Hp} {al : List Addr} : ∀ {vs : List V} {ws : List Va} {i : Nat} {w : Va}, Rps K mg M al vs ws → ws[i]? = some w → ∃ v, vs[i]? = some v ∧ Rp K mg M al v w
  | _, _, _, _, .nil, e => by simp at e
  | _, _, 0, _, .cons a _, e => by simp at e; subst e; exact ⟨_, rfl, a⟩
  | _, _, i + 1, _, .cons _ b, e => by simpa using rps_get (i := i) b (by simpa using e)
theorem pi_seq {tg l : Expr} {tl : TE} (hl : PE X l tl) : PI X tg l (fun σ H R => tl σ H fun x H1 => ∃ a, x = .ref a ∧ ((∃ xs, SqL X.K H1 a xs) ∧ R (Itl X.K a) H1 ∨ (∃ xs, SqT X.K H1 a xs) ∧ R (Itt X.K a) H1)) := by
  refine ⟨fun pins s σ H R I h => ?_⟩
  refine thn (hl.run pins s σ H _ I h) fun v s1 ⟨x, H1, I1, r1, q1⟩ => ?_
  obtain ⟨a, e, q⟩ := q1
  subst e
  cases r1
  rcases q with ⟨⟨xs, hq⟩, q⟩ | ⟨⟨xs, hq⟩, q⟩
  · obtain ⟨its, rv, p, hz⟩ := I1.list hq
    refine wpAny_pyIter_list p.isList ?_
    refine ⟨s1.heap.objs.size, [s1.heap.objs.size], _, _, H1, rfl, I1.kept (t' := s1.toks) fun b o e => Heap.get?_push_of_some _ e, turn_list a _, ⟨_, Heap.get?_push_size _ rfl, rfl, rfl⟩, fun b hb => ?_, q⟩
    have e : b = s1.heap.objs.size := by simpa using hb
    subst e
    exact I1.fpOk (Nat.le_refl _) (I1.hok.fresh (Nat.le_refl _))
  · obtain ⟨its, rv, p, hz⟩ := I1.tuple hq
    refine wpAny_pyIter_tuple (show s1.heap.IsTuple a its.toArray from p) ?_
    refine ⟨s1.heap.objs.size, [s1.heap.objs.size], _, _, H1, rfl, I1.kept (t' := s1.toks) fun b o e => Heap.get?_push_of_some _ e, turn_tuple a _, ⟨_, Heap.get?_push_size _ rfl, rfl, rfl⟩, fun b hb => ?_, q⟩
    have e : b = s1.heap.objs.size := by simpa using hb
    subst e
    exact I1.fpOk (Nat.le_refl _) (I1.hok.fresh (Nat.le_refl _))
section
variable {K : PySem.W.Frag} {mg : Str → Option Value} {H : Hp} {al T : List Addr} {L : LH}
theorem wlk_lst {a : Addr} {vs : List V} {ws : List Va} (rel : Rel K mg H al T L) (h : H a = some (.lst vs)) (na : ¬ Alv al L a) (r : Rps K mg (mask H (al ++ T)) al vs ws) : Wlk K mg H al T L (Itl K a) ws := by
  intro H1 al1 T1 L1 s
  have h1 := s.frame a _ h na
  have r1 := s.rps r
  refine ⟨⟨vs, SqL.of h1, by rw [Paired.length r1]; exact Nat.le_refl _⟩, fun i w e => ?_⟩
  obtain ⟨v, e2, q⟩ := rps_get r1 e
  refine ⟨⟨vs, v, SqL.of h1, e2⟩, fun x H2 y => ?_⟩
  obtain ⟨rfl, y⟩ := y
  have := y vs (SqL.of h1)
  rw [e2] at this; cases this
  exact ⟨Stp.refl s.rel, q⟩
theorem wlk_tup {a : Addr} {vs : List V} {ws : List Va} (rel : Rel K mg H al T L) (h : mask H (al ++ T) a = some (.tup vs)) (r : Rps K mg (mask H (al ++ T)) al vs ws) : Wlk K mg H al T L (Itt K a) ws := by
  intro H1 al1 T1 L1 s
  have h1 := (of_mask (s.le _ _ h)).2
  have r1 := s.rps r
  refine ⟨⟨vs, SqT.of h1, by rw [Paired.length r1]; exact Nat.le_refl _⟩, fun i w e => ?_⟩
  obtain ⟨v, e2, q⟩ := rps_get r1 e
  refine ⟨⟨vs, v, SqT.of h1, e2⟩, fun x H2 y => ?_⟩
  obtain ⟨rfl, y⟩ := y
  have := y vs (SqT.of h1)
  rw [e2] at this; cases this
  exact ⟨Stp.refl s.rel, q⟩
theorem wlk_range {lo : Int} {n : Nat} (rel : Rel K mg H al T L) : Wlk K mg H al T L (Itr lo n) ((List.range n).map fun i => .d (.int (lo + (i : Nat)))) := by
  intro H1 al1 T1 L1 s
  refine ⟨by show n ≤ _; simp, fun i w e => ?_⟩
  rw [List.getElem?_map] at e
  by_cases hi : i < n
  · rw [List.getElem?_range hi] at e
    cases e
    refine ⟨hi, fun x H2 y => ?_⟩
    obtain ⟨rfl, rfl⟩ := y
    exact ⟨Stp.refl s.rel, .d (.int _)⟩
  · rw [List.getElem?_eq_none (by simpa using hi)] at e; cases e
end
theorem not_alv_mask {H : Hp} {al T : List Addr} {L : LH} {a : Addr} {o : HO} (e : mask H (al ++ T) a = some o) : ¬ Alv al L a := fun z => (of_mask e).1 (List.mem_append_left _ z.mem)
theorem si_v {tg e : Expr} {f : EF} (h : SE X Wx e f) : SI X Wx tg e (srcV f) := by
  refine PI.imp (pi_seq h) ?_
  rintro σ H R ⟨env, L, al, T, c, q⟩
  refine ⟨env, L, al, T, c, ?_⟩
  unfold srcV at q
  revert q
  generalize f env L = r
  intro q
  cases r with
  | stuck => exact q
  | exc c f L1 => exact q
  | ok w L1 =>
    intro v H1 al1 s1 r1
    simp only [Res.bind_ok] at q
    cases e : srcOf w L1 with
    | none => rw [e] at q; exact q.elim
    | some p =>
      rw [e] at q
      cases w with
      | loc n =>
        simp only [srcOf] at e
        split at e
        · rename_i ws e1
          cases e
          obtain ⟨a, vs, rfl, ea, e3, e4⟩ := loc_lst s1.rel r1 e1
          refine ⟨a, rfl, .inl ⟨⟨vs, SqL.of e3⟩, q _ H1 al1 s1 ?_⟩⟩
          refine wlk_lst (s1.rel.lock _) e3 (fun ⟨k, o, h1, h2⟩ => ?_) e4
          have hn : n < L1.length := (List.getElem?_eq_some_iff.mp e1).1
          have : k = n := by
            obtain ⟨h3, h4⟩ := List.getElem?_eq_some_iff.mp ea
            obtain ⟨h5, h6⟩ := List.getElem?_eq_some_iff.mp h1
            exact (List.getElem_inj s1.rel.nd).mp (h6.trans h4.symm)
          subst this
          unfold lockL at h2
          simp only at h2
          rw [List.getElem?_set_self hn] at h2
          cases h2
        · cases e
      | d y =>
        cases r1 with
        | d r1 =>
          cases r1 with
          | lst e1 e2 => cases e; exact ⟨_, rfl, .inl ⟨⟨_, SqL.of (of_mask e1).2⟩, q _ H1 al1 s1 (wlk_lst s1.rel (of_mask e1).2 (not_alv_mask e1) (all_dq e2))⟩⟩
          | tup e1 e2 => cases e; exact ⟨_, rfl, .inr ⟨⟨_, SqT.of (of_mask e1).2⟩, q _ H1 al1 s1 (wlk_tup s1.rel e1 (all_dq e2))⟩⟩
          | non => cases e
          | bl _ => cases e
          | int _ => cases e
          | str _ => cases e
      | tup us =>
        cases e
        cases r1 with
        | tup e1 e2 => exact ⟨_, rfl, .inr ⟨⟨_, SqT.of (of_mask e1).2⟩, q _ H1 al1 s1 (wlk_tup s1.rel e1 e2)⟩⟩
      | dct _ => cases e
      | exc _ _ => cases e
      | scr ns => cases e
end
end L2.HW
namespace L2.HW
open PySem PySem.Spec PyProof.Rows
section
variable {X : Cx} {Wx : WX}
def rngV (lo : Int) (n : Nat) : List Va := (List.range n).map fun i => .d (.int (lo + (i : Nat)))
def srcR1 (fs : En → LH → Res (List Va)) : Srcf := fun env L => (fs env L).bind fun ws L1 => match ws with
  | [.d (.int j)] => if -(2 ^ 62) ≤ j ∧ j < 2 ^ 62 then .ok (rngV 0 j.toNat, none) L1 else .stuck
  | _ => .stuck
def srcR2 (fs : En → LH → Res (List Va)) : Srcf := fun env L => (fs env L).bind fun ws L1 => match ws with
  | [.d (.int i), .d (.int j)] => if -(2 ^ 62) ≤ i ∧ i < 2 ^ 62 ∧ -(2 ^ 62) ≤ j ∧ j < 2 ^ 62 then .ok (rngV i (j - i).toNat, none) L1 else .stuck
  | _ => .stuck
theorem iseq {α β : Type} {R : Hp → List Addr → β → α → Prop} {σ : St} {H : Hp} {al T : List Addr} {L : LH} {env : En} {f : En → LH → Res α} {k : α → LH → Res (List Va × Option Nat)} {Q : It → Hp → Prop} {Q' : β → Hp → Prop}
    (c : Conf X.K X.mg σ H env L al T) (h : IPost X Wx σ H al T L ((f env L).bind k) Q)
    (hk : ∀ b H1 a L1 al1, Conf X.K X.mg σ H1 env L1 al1 T → Stp X.K X.mg H al T L H1 al1 T L1 → R (mask H1 (al1 ++ T)) al1 b a → IPost X Wx σ H1 al1 T L1 (k a L1) Q → Q' b H1) : Rdg X Wx R f σ H Q' := by
  refine ⟨env, L, al, T, c, ?_⟩
  revert h
  generalize f env L = r
  intro g
  cases r with
  | stuck => exact g
  | exc c f L1 => exact g
  | ok b L1 =>
    intro b' H1 al1 s1 q1
    refine hk b' H1 b L1 al1 (c.stp s1) s1 q1 ?_
    simp only [Res.bind_ok] at g
    revert g
    generalize k b L1 = r2
    intro g
    cases r2 with
    | stuck => exact g
    | exc c' f L2 => exact fun cls d H' al' t q => g cls d H' al' (Stp.trans c.rel.len s1 t) q
    | ok o L2 => exact fun J H' al' t q => g J H' al' (Stp.trans c.rel.len s1 t) q
theorem si_r1 {tg a : Expr} {fs : En → LH → Res (List Va)} {p pos : Pos} (hg : Gl X "range") (hm : X.mg "range" = none) (ha : SA X Wx [a] fs) (hs : starEach [a] X.env = [(false, eval a X.env)] := by rfl) : SI X Wx tg (.Call (.Name "range" p) [a] [] pos) (srcR1 fs) := by
  refine PI.imp (pi_range1 hg hm ha hs) ?_
  rintro σ H R ⟨env, L, al, T, c, h⟩
  refine iseq (R := RVs X) c h fun vs H1 ws L1 al1 c1 s1 r1 h1 => ?_
  split at h1
  · rename_i j
    obtain ⟨v, rfl, q⟩ := rps_1 r1
    split at h1
    · rename_i hb
      refine ⟨j, by rw [dq_int (rp_d q)], hb.1, hb.2, h1 _ H1 al1 (Stp.refl c1.rel) (wlk_range (lo := 0) c1.rel)⟩
    · exact h1.elim
  · exact h1.elim
def forL (g : Va → En → LH → Res En) (body : SFn) : List Va → En → LH → Out
  | [], env, L => .nx env L
  | w :: ws, env, L => match g w env L with
    | .ok env1 L1 => match body env1 L1 with
      | .nx env2 L2 => forL g body ws env2 L2
      | .ct env2 L2 => forL g body ws env2 L2
      | .bk env2 L2 => .nx env2 L2
      | o => o
    | _ => .stuck
def openOut (lk : Option Nat) (L0 : LH) : Out → Out
  | .nx env L => .nx env (openL lk L0 L)
  | .rt w L => .rt w (openL lk L0 L)
  | .rf o L => .rf o (openL lk L0 L)
  | .bk env L => .bk env (openL lk L0 L)
  | .ct env L => .ct env (openL lk L0 L)
  | .exc c f env L => .exc c f env (openL lk L0 L)
  | .stuck => .stuck
def sFor (s : Srcf) (g : Va → En → LH → Res En) (body : SFn) : SFn := fun env L => (s env L).then env fun p L1 => openOut p.2 L1 (forL g body p.1 env (lockL p.2 L1))
theorem SPost.opened {H1 H3 : Hp} {al1 al3 T : List Addr} {L1 L3 : LH} {lk : Option Nat} {r : Out} {D : Ends} (r0 : Rel X.K X.mg H1 al1 T L1) (s : Stp X.K X.mg H1 al1 T (lockL lk L1) H3 al3 T L3) (h : SPost X Wx H1 al1 T L1 (openOut lk L1 r) D) : SPost X Wx H3 al3 T L3 r D := by
  have hl : al1.length = (lockL lk L1).length := (r0.lock lk).len
  have op : ∀ {H' : Hp} {al' T' : List Addr} {L' : LH}, Stp X.K X.mg H3 al3 T L3 H' al' T' L' → Stp X.K X.mg H1 al1 T L1 H' al' T' (openL lk L1 L') := fun t => Stp.opened r0 (Stp.trans hl s t)
  cases r with
  | nx env' L' => exact fun σ' H' al' t c => h σ' H' al' (op t) ⟨(op t).rel, c.len, c.slot⟩
  | rt w L' => exact fun v H' al' t c => h v H' al' (op t) c
  | rf o L' => exact fun a H' al' ha t c => h a H' al' (s.back ha) (op t) c
  | bk env' L' => exact fun σ' H' al' t c => h σ' H' al' (op t) ⟨(op t).rel, c.len, c.slot⟩
  | ct env' L' => exact fun σ' H' al' t c => h σ' H' al' (op t) ⟨(op t).rel, c.len, c.slot⟩
  | exc c f env' L' => exact fun cls d σ' H' al' t c => h cls d σ' H' al' (op t) ⟨(op t).rel, c.len, c.slot⟩
  | stuck => exact h
theorem ss_for {tg iter : Expr} {body : List Stmt} {pos : Pos} {s : Srcf} {sl : List Nat} {g : Va → En → LH → Res En} {fb : SFn} (hp : PassesOwn (model X.prog X.w) X.A X.env X.xe) (hc : X.calm = true) (hi : SI X Wx tg iter s) (hg : SG X sl tg g) (hb : SB X Wx body fb)
    (hs : ∀ x, foldedSetIterable iter X.env x = pure x := by intro _; rfl) : SS X Wx (.For tg iter body [] pos) (sFor s g fb) := by
  refine PS.imp (ps_for hp hc hi hg hb hs) ?_
  rintro D σ H ⟨env, L, al, T, c, h⟩
  refine ⟨env, L, al, T, c, ?_⟩
  unfold sFor at h
  revert h
  generalize s env L = r
  intro h
  cases r with
  | stuck => exact h
  | exc c' f L1 => exact fun cls d H' al' t e => h cls d σ H' al' t (c.stp t) e
  | ok p L1 =>
    obtain ⟨ws, lk⟩ := p
    intro J H1 al1 s1 wk
    have c1 := c.stp s1
    have h := SPost.on c.rel.len s1 h
    simp only [then_ok] at h
    have hl : al1.length = (lockL lk L1).length := (c1.rel.lock lk).len
    let W : Nat → Nat → St → Hp → Prop := fun i m σ2 H2 => m = ws.length - i ∧ i ≤ ws.length ∧ ∃ env2 al2 L2, Stp X.K X.mg H1 al1 T (lockL lk L1) H2 al2 T L2 ∧ Conf X.K X.mg σ2 H2 env2 L2 al2 T ∧ SPost X Wx H1 al1 T L1 (openOut lk L1 (forL g fb (ws.drop i) env2 L2)) D
    refine ⟨W, ⟨ws.length, by simp, Nat.zero_le _, env, al1, lockL lk L1, Stp.refl (c1.rel.lock lk), c1.lock lk, h⟩, ?_⟩
    rintro i m σ2 H2 ⟨rfl, hi, env2, al2, L2, s2, c2, h2⟩
    obtain ⟨stop, item⟩ := wk H2 al2 T L2 s2
    by_cases hlt : i < ws.length
    · have ew : ws[i]? = some ws[i] := List.getElem?_eq_getElem hlt
      obtain ⟨go, yl⟩ := item i _ ew
      refine .inr ⟨go, W (i + 1) (ws.length - (i + 1)), fun σ' H' n => ⟨ws.length - (i + 1), by omega, n⟩, fun x H3 y => ?_⟩
      obtain ⟨s3, rx⟩ := yl x H3 y
      have c3 := c2.stp s3
      have s23 := Stp.trans hl s2 s3
      refine ⟨ws[i], env2, L2, al2, T, c3, rx, ?_⟩
      rw [List.drop_eq_getElem_cons hlt] at h2
      unfold forL at h2
      revert h2
      generalize g ws[i] env2 L2 = r1
      intro h2
      cases r1 with
      | stuck => exact h2
      | exc _ _ _ => exact h2
      | ok env4 L4 =>
        intro σ4 H4 al4 s4 c4 _
        have s24 := Stp.trans hl s23 s4
        refine ⟨env4, L4, al4, T, c4, ?_⟩
        simp only at h2
        revert h2
        generalize fb env4 L4 = r2
        intro h2
        have again : ∀ {env5 : En} {L5 : LH} {σ5 : St} {H5 : Hp} {al5 : List Addr}, SPost X Wx H1 al1 T L1 (openOut lk L1 (forL g fb (ws.drop (i + 1)) env5 L5)) D → Stp X.K X.mg H4 al4 T L4 H5 al5 T L5 → Conf X.K X.mg σ5 H5 env5 L5 al5 T → W (i + 1) (ws.length - (i + 1)) σ5 H5 :=
          fun {env5 L5 σ5 H5 al5} h5 s5 c5 => ⟨rfl, hlt, env5, al5, L5, Stp.trans hl s24 s5, c5, h5⟩
        cases r2 with
        | nx env5 L5 => exact fun σ5 H5 al5 s5 c5 => again h2 s5 c5
        | ct env5 L5 => exact fun σ5 H5 al5 s5 c5 => again h2 s5 c5
        | bk env5 L5 => exact SPost.opened (r := .nx env5 L5) c1.rel s24 h2
        | rt w L5 => exact SPost.opened (r := .rt w L5) c1.rel s24 h2
        | rf o L5 => exact SPost.opened (r := .rf o L5) c1.rel s24 h2
        | exc c' f' env5 L5 => exact SPost.opened (r := .exc c' f' env5 L5) c1.rel s24 h2
        | stuck => exact h2
    · have e : i = ws.length := by omega
      subst e
      rw [List.drop_length] at h2
      exact .inl ⟨stop, (SPost.opened (r := .nx env2 L2) c1.rel s2 h2) σ2 H2 al2 (Stp.refl c2.rel) c2⟩
def whileL (t : En → LH → Res Bool) (body : SFn) : Nat → En → LH → Out
  | 0, _, _ => .stuck
  | n + 1, env, L => (t env L).then env fun b L1 => if b then match body env L1 with
      | .nx env2 L2 => whileL t body n env2 L2
      | .ct env2 L2 => whileL t body n env2 L2
      | .bk env2 L2 => .nx env2 L2
      | o => o
    else .nx env L1
theorem whileL_more {t : En → LH → Res Bool} {body : SFn} : ∀ (n k : Nat) {env : En} {L : LH} {r : Out}, whileL t body n env L = r → r ≠ .stuck → whileL t body (n + k) env L = r
  | 0, _, _, _, _, h, hr => absurd h.symm hr
  | n + 1, k, env, L, r, h, hr => by
    rw [Nat.add_right_comm]
    unfold whileL at h ⊢
    cases e : t env L with
    | stuck => rw [e] at h; exact absurd h.symm hr
    | exc c f L1 => rw [e] at h; exact h
    | ok b L1 =>
      rw [e] at h
      simp only [then_ok] at h ⊢
      cases b with
      | false => exact h
      | true =>
        simp only [if_true] at h ⊢
        cases e2 : body env L1 with
        | nx env2 L2 => rw [e2] at h; exact whileL_more n k h hr
        | ct env2 L2 => rw [e2] at h; exact whileL_more n k h hr
        | bk env2 L2 => rw [e2] at h; exact h
        | rt w L2 => rw [e2] at h; exact h
        | rf o L2 => rw [e2] at h; exact h
        | exc c f env2 L2 => rw [e2] at h; exact h
        | stuck => rw [e2] at h; exact h
open Classical in
noncomputable def sWhile (t : En → LH → Res Bool) (body : SFn) : SFn := fun env L => if h : ∃ n, whileL t body n env L ≠ .stuck then whileL t body (Classical.choose h) env L else .stuck
theorem sWhile_eq {t : En → LH → Res Bool} {body : SFn} {n : Nat} {env : En} {L : LH} {r : Out} (h : whileL t body n env L = r) (hr : r ≠ .stuck) : sWhile t body env L = r := by
  have ex : ∃ n, whileL t body n env L ≠ .stuck := ⟨n, by rw [h]; exact hr⟩
  unfold sWhile
  rw [dif_pos ex]
  have h1 := Classical.choose_spec ex
  have h2 := whileL_more (Classical.choose ex) n (rfl : whileL t body (Classical.choose ex) env L = _) h1
  have h3 := whileL_more n (Classical.choose ex) h hr
  rw [Nat.add_comm] at h3
  rw [← h2, h3]
theorem ss_while {e : Expr} {body : List Stmt} {pos : Pos} {t : En → LH → Res Bool} {fb : SFn} (hp : PassesOwn (model X.prog X.w) X.A X.env X.xe) (ht : ST X Wx e t) (hb : SB X Wx body fb) : SS X Wx (.While e body [] pos) (sWhile t fb) := by
  refine PS.imp (ps_while hp ht hb) ?_
  rintro D σ H ⟨env, L, al, T, c, h⟩
  obtain ⟨n, h⟩ : ∃ n, SPost X Wx H al T L (whileL t fb n env L) D := by
    unfold sWhile at h
    split at h
    · exact ⟨_, h⟩
    · exact h.elim
  let W : Nat → St → Hp → Prop := fun m σ2 H2 => ∃ env2 al2 L2, Stp X.K X.mg H al T L H2 al2 T L2 ∧ Conf X.K X.mg σ2 H2 env2 L2 al2 T ∧ SPost X Wx H al T L (whileL t fb m env2 L2) D
  refine ⟨W, ⟨_, env, al, L, Stp.refl c.rel, c, h⟩, ?_⟩
  rintro m σ2 H2 ⟨env2, al2, L2, s2, c2, h2⟩
  have hl := c.rel.len
  have on : ∀ {H3 : Hp} {al3 : List Addr} {L3 : LH} {r : Out}, Stp X.K X.mg H2 al2 T L2 H3 al3 T L3 → SPost X Wx H al T L r D → SPost X Wx H3 al3 T L3 r D := fun s3 h => SPost.on hl (Stp.trans hl s2 s3) h
  cases m with
  | zero => exact h2.elim
  | succ m =>
    unfold whileL at h2
    refine ⟨env2, L2, al2, T, c2, ?_⟩
    revert h2
    generalize t env2 L2 = r1
    intro h2
    cases r1 with
    | stuck => exact h2
    | exc c' f L3 => exact fun cls d H' al' s e => h2 cls d σ2 H' al' (Stp.trans hl s2 s) (c2.stp s) e
    | ok b L3 =>
      intro b' H3 al3 s3 e
      obtain rfl : b' = b := e
      have c3 := c2.stp s3
      simp only [then_ok] at h2
      cases b' with
      | false => exact (on s3 h2) σ2 H3 al3 (Stp.refl c3.rel) c3
      | true =>
        rw [if_pos rfl] at h2 ⊢
        refine ⟨W m, fun σ' H' w => ⟨m, Nat.lt_succ_self m, w⟩, env2, L3, al3, T, c3, ?_⟩
        revert h2
        generalize fb env2 L3 = r2
        intro h2
        have s23 := Stp.trans hl s2 s3
        have again : ∀ {env5 : En} {L5 : LH} {σ5 : St} {H5 : Hp} {al5 : List Addr}, SPost X Wx H al T L (whileL t fb m env5 L5) D → Stp X.K X.mg H3 al3 T L3 H5 al5 T L5 → Conf X.K X.mg σ5 H5 env5 L5 al5 T → W m σ5 H5 :=
          fun {env5 L5 σ5 H5 al5} h5 s5 c5 => ⟨env5, al5, L5, Stp.trans hl s23 s5, c5, h5⟩
        cases r2 with
        | nx env5 L5 => exact fun σ5 H5 al5 s5 c5 => again h2 s5 c5
        | ct env5 L5 => exact fun σ5 H5 al5 s5 c5 => again h2 s5 c5
        | bk env5 L5 => exact on (r := .nx env5 L5) s3 h2
        | rt w L5 => exact on (r := .rt w L5) s3 h2
        | rf o L5 => exact on (r := .rf o L5) s3 h2
        | exc c' f' env5 L5 => exact on (r := .exc c' f' env5 L5) s3 h2
        | stuck => exact h2
end
end L2.HW
namespace L2.HW
open PySem PySem.Spec PyProof.Rows
section
variable {X : Cx} {Wx : WX}
abbrev FX : WX := fun _ _ _ _ => False
def STs (X : Cx) (Wx : WX) (ifs : List Expr) (t : En → LH → Res Bool) : Prop := PTs X ifs (Rdg X Wx RB t)
def tTrue : En → LH → Res Bool := fun _ L => .ok true L
theorem sts_nil : STs X Wx [] tTrue := ⟨fun pins s σ H Q I ⟨env, L, al, T, c, h⟩ => pts_nil.run pins s σ H Q I (gok c.rel h rfl)⟩
theorem sts_one {c : Expr} {t : En → LH → Res Bool} (h : ST X Wx c t) : STs X Wx [c] t := pts_one h
def compL (g : Va → En → LH → Res En) (t : En → LH → Res Bool) (f : EF) : List Va → En → LH → Res (List Va)
  | [], _, L => .ok [] L
  | w :: ws, env, L => match g w env L with
    | .ok env1 L1 => match t env1 L1 with
      | .ok b L2 => if b then match f env1 L2 with
          | .ok u L3 => (compL g t f ws env L3).bind fun us L4 => .ok (u :: us) L4
          | _ => .stuck
        else compL g t f ws env L2
      | _ => .stuck
    | _ => .stuck
def wipeE (env : En) : List Nat → En
  | [] => env
  | v :: vs => (wipeE env vs).set v none
def fComp (s : Srcf) (g : Va → En → LH → Res En) (t : En → LH → Res Bool) (f : EF) (vs : List Nat) : En → LH → Res Ob := fun env L => (s env L).bind fun p L1 =>
  if p.1.length ≤ sizeLine then match compL g t f p.1 (wipeE env vs) (lockL p.2 L1) with
    | .ok us L2 => .ok (.lst us) (openL p.2 L1 L2)
    | _ => .stuck
  else .stuck
theorem wipeE_length (env : En) : ∀ vs, (wipeE env vs).length = env.length
  | [] => rfl
  | v :: vs => by unfold wipeE; rw [List.length_set, wipeE_length env vs]
theorem wipeE_some {env : En} {i : Nat} {x : Va} : ∀ {vs : List Nat}, (wipeE env vs)[i]? = some (some x) → env[i]? = some (some x) ∧ i ∉ vs
  | [], h => ⟨h, by simp⟩
  | v :: vs, h => by
    unfold wipeE at h
    by_cases hi : v = i
    · subst hi
      by_cases hv : v < (wipeE env vs).length
      · rw [List.getElem?_set_self hv] at h; cases h
      · rw [List.getElem?_eq_none (by simpa using hv)] at h; cases h
    · rw [List.getElem?_set_ne hi] at h
      obtain ⟨h1, h2⟩ := wipeE_some h
      exact ⟨h1, by simp only [List.mem_cons, not_or]; exact ⟨fun e => hi e.symm, h2⟩⟩
theorem wipe_out' {σ : St} {i : Nat} : ∀ {vs : List Nat}, i ∉ vs → (wipe σ vs)[i]? = σ[i]?
  | [], _ => rfl
  | v :: vs, h => by
    unfold wipe
    rw [List.getElem?_set_ne (by intro z; exact h (by simp [z]))]
    exact wipe_out' fun z => h (List.mem_cons_of_mem _ z)
theorem wipe_in {σ : St} {i : Nat} : ∀ {vs : List Nat}, i ∈ vs → i < σ.length → (wipe σ vs)[i]? = some none
  | [], h, _ => by cases h
  | v :: vs, h, hl => by
    unfold wipe
    by_cases e : v = i
    · subst e
      rw [List.getElem?_set_self (by rw [wipe_length]; exact hl)]
    · rw [List.getElem?_set_ne e]
      rcases List.mem_cons.mp h with z | z
      · exact absurd z.symm e
      · exact wipe_in z hl
theorem wipe_agr {σ σ2 : St} {vs sl : List Nat} (h : Agr sl (wipe σ vs) σ2) (hs : ∀ j ∈ sl, j ∈ vs) : wipe σ2 vs = wipe σ vs := by
  have hlen : σ2.length = σ.length := by rw [h.1, wipe_length]
  apply List.ext_getElem?
  intro j
  by_cases e : j ∈ vs
  · by_cases hj : j < σ.length
    · rw [wipe_in e (by omega), wipe_in e hj]
    · rw [List.getElem?_eq_none (by rw [wipe_length]; omega), List.getElem?_eq_none (by rw [wipe_length]; omega)]
  · rw [wipe_out' e, h.2 j fun z => e (hs j z)]
theorem Conf.wiped {K : PySem.W.Frag} {mg : Str → Option Value} {σ : St} {H : Hp} {env : En} {L : LH} {al T : List Addr} (c : Conf K mg σ H env L al T) (vs : List Nat) : Conf K mg (wipe σ vs) H (wipeE env vs) L al T :=
  ⟨c.rel, by rw [wipe_length, wipeE_length, c.len], fun i w e => by
    obtain ⟨e1, n⟩ := wipeE_some e
    obtain ⟨v, h1, h2⟩ := c.slot i w e1
    exact ⟨v, by rw [wipe_out' n]; exact h1, h2⟩⟩
theorem lc_at {wi : TI} {s : Srcf} {sl vs : List Nat} {g : Va → En → LH → Res En} {t : En → LH → Res Bool} {f : EF} {σ : St} {H : Hp} {Q : VK} {gR : TG} {tR : TT} {eR : TE} {env : En} {L : LH} {al T : List Addr} (hv : ∀ j ∈ sl, j ∈ vs) (c : Conf X.K X.mg σ H env L al T)
    (hw : ∀ R, IPost X Wx σ H al T L (s env L) R → wi σ H R)
    (hgR : ∀ v σ H Q, (∃ w env L al T, Conf X.K X.mg σ H env L al T ∧ RV X (mask H (al ++ T)) al v w ∧ TPost X sl σ H al T L (g w env L) Q) → gR v σ H Q)
    (htR : ∀ σ H Q, Rdg X FX RB t σ H Q → tR σ H Q) (heR : ∀ σ H Q, Rdg X FX (RV X) f σ H Q → eR σ H Q)
    (h : FPost X Wx σ H al T L (fComp s g t f vs env L) Q) : tLc wi gR tR eR vs σ H Q := by
  refine hw _ ?_
  unfold fComp at h
  revert h
  generalize s env L = r
  intro h
  cases r with
  | stuck => exact h
  | exc c' f L1 => exact h
  | ok p L1 =>
    obtain ⟨ws, lk⟩ := p
    intro J H1 al1 s1 wk D hD
    have c1 := c.stp s1
    simp only [Res.bind_ok] at h
    split at h
    · rename_i hz
      have hl : al1.length = (lockL lk L1).length := (c1.rel.lock lk).len
      have c1l := c1.lock lk
      -- the new list, held
      have s0 : Stp X.K X.mg H1 al1 T (lockL lk L1) (upd H1 D (.lst [])) al1 (D :: T) (lockL lk L1) := c1l.rel.allocT hD
      let W : Nat → Nat → Hp → Prop := fun i m H2 => m = ws.length - i ∧ i ≤ ws.length ∧ ∃ al2 L2 av aw, Stp X.K X.mg H1 al1 T (lockL lk L1) H2 al2 (D :: T) L2 ∧ H2 D = some (.lst av) ∧ Rps X.K X.mg (mask H2 (al2 ++ (D :: T))) al2 av aw ∧ aw.length ≤ i ∧
        FPost X Wx σ H1 al1 T L1 (match compL g t f (ws.drop i) (wipeE env vs) L2 with
          | .ok us L3 => .ok (.lst (aw ++ us)) (openL lk L1 L3)
          | _ => .stuck) Q
      have back : ∀ x, H1 x = none → H x = none := fun x z => s1.back z
      have h1 : FPost X Wx σ H1 al1 T L1 (match compL g t f ws (wipeE env vs) (lockL lk L1) with
          | .ok us L3 => .ok (.lst us) (openL lk L1 L3)
          | _ => .stuck) Q := by
        revert h
        generalize compL g t f ws (wipeE env vs) (lockL lk L1) = r2
        intro h
        cases r2 with
        | ok us L3 => exact fun a H' al' ha t q => h a H' al' (back a ha) (Stp.trans c.rel.len s1 t) q
        | exc _ _ _ => exact h.elim
        | stuck => exact h.elim
      refine ⟨W, ⟨ws.length, by simp, Nat.zero_le _, al1, lockL lk L1, [], [], s0, upd_same, .nil, Nat.le_refl _, ?_⟩, ?_⟩
      · simpa using h1
      rintro i m H2 ⟨rfl, hi, al2, L2, av, aw, s2, hav, raw, hlen, h2⟩
      obtain ⟨stop, item⟩ := wk H2 al2 (D :: T) L2 s2
      by_cases hlt : i < ws.length
      · have ew : ws[i]? = some ws[i] := List.getElem?_eq_getElem hlt
        obtain ⟨go, yl⟩ := item i _ ew
        refine .inr ⟨go, W (i + 1) (ws.length - (i + 1)), fun H' n => ⟨ws.length - (i + 1), by omega, n⟩, fun x H3 y => ?_⟩
        obtain ⟨s3, rx⟩ := yl x H3 y
        have s13 := Stp.trans hl s2 s3
        have c3 : Conf X.K X.mg (wipe σ vs) H3 (wipeE env vs) L2 al2 (D :: T) := (c1l.wiped vs).stp s13
        refine hgR _ _ _ _ ⟨ws[i], wipeE env vs, L2, al2, D :: T, c3, rx, ?_⟩
        rw [List.drop_eq_getElem_cons hlt] at h2
        unfold compL at h2
        revert h2
        generalize g ws[i] (wipeE env vs) L2 = r1
        intro h2
        cases r1 with
        | stuck => exact h2
        | exc _ _ _ => exact h2
        | ok env4 L4 =>
          intro σ4 H4 al4 s4 c4 ag
          have s14 := Stp.trans hl s13 s4
          refine ⟨wipe_agr ag hv, htR _ _ _ ⟨env4, L4, al4, D :: T, c4, ?_⟩⟩
          simp only at h2
          revert h2
          generalize t env4 L4 = r2
          intro h2
          cases r2 with
          | stuck => exact h2
          | exc _ _ _ => exact h2.elim
          | ok b L5 =>
            intro b' H5 al5 s5 e5
            obtain rfl : b' = b := e5
            have s15 := Stp.trans hl s14 s5
            have h5 : H5 D = some (.lst av) := s5.frame D _ (s4.frame D _ (s3.frame D _ hav (fun z => s2.rel.dis D z.mem List.mem_cons_self)) (fun z => s3.rel.dis D z.mem List.mem_cons_self)) (fun z => s4.rel.dis D z.mem List.mem_cons_self)
            have raw5 := s5.rps (s4.rps (s3.rps raw))
            simp only at h2
            cases b' with
            | false =>
              rw [if_neg Bool.false_ne_true] at h2 ⊢
              exact ⟨rfl, hlt, al5, L5, av, aw, s15, h5, raw5, by omega, h2⟩
            | true =>
              rw [if_pos rfl] at h2 ⊢
              have c5 := c4.stp s5
              refine heR _ _ _ ⟨env4, L5, al5, D :: T, c5, ?_⟩
              revert h2
              generalize f env4 L5 = r3
              intro h2
              cases r3 with
              | stuck => exact h2
              | exc _ _ _ => exact h2.elim
              | ok u L6 =>
                intro yv H6 al6 s6 ry
                have s16 := Stp.trans hl s15 s6
                have h6 : H6 D = some (.lst av) := s6.frame D _ h5 (fun z => s5.rel.dis D z.mem List.mem_cons_self)
                have raw6 := s6.rps raw5
                have l6 := Paired.length raw6
                refine ⟨av, h6, by omega, rfl, hlt, al6, L6, av ++ [yv], aw ++ [u], Stp.updT hD s16, upd_same, ?_, by simp; omega, ?_⟩
                · rw [mask_in (by simp)]
                  exact rps_app raw6 (.cons ry .nil)
                · simp only at h2
                  revert h2
                  generalize compL g t f (ws.drop (i + 1)) (wipeE env vs) L6 = r4
                  intro h2
                  cases r4 with
                  | stuck => exact h2
                  | exc _ _ _ => exact h2
                  | ok us L7 => simpa using h2
      · have e : i = ws.length := by omega
        subst e
        rw [List.drop_length] at h2
        unfold compL at h2
        simp only [List.append_nil] at h2
        exact .inl ⟨stop, h2 D H2 al2 hD (Stp.opened c1.rel s2) ⟨av, hav, raw⟩⟩
    · exact h.elim
theorem lc_red {wi : TI} {s : Srcf} {sl vs : List Nat} {g : Va → En → LH → Res En} {t : En → LH → Res Bool} {f : EF} {σ : St} {H : Hp} {Q : VK} {gR : TG} {tR : TT} {eR : TE} (hv : ∀ j ∈ sl, j ∈ vs)
    (hw : ∀ σ H R, (∃ env L al T, Conf X.K X.mg σ H env L al T ∧ IPost X Wx σ H al T L (s env L) R) → wi σ H R)
    (hgR : ∀ v σ H Q, (∃ w env L al T, Conf X.K X.mg σ H env L al T ∧ RV X (mask H (al ++ T)) al v w ∧ TPost X sl σ H al T L (g w env L) Q) → gR v σ H Q)
    (htR : ∀ σ H Q, Rdg X FX RB t σ H Q → tR σ H Q) (heR : ∀ σ H Q, Rdg X FX (RV X) f σ H Q → eR σ H Q)
    (h : FRdg X Wx (fComp s g t f vs) σ H Q) : tLc wi gR tR eR vs σ H Q := by
  obtain ⟨env, L, al, T, c, h⟩ := h
  exact lc_at hv c (fun R q => hw _ _ _ ⟨env, L, al, T, c, q⟩) hgR htR heR h
abbrev gRd (X : Cx) (sl : List Nat) (g : Va → En → LH → Res En) : TG := fun v σ H Q => ∃ w env L al T, Conf X.K X.mg σ H env L al T ∧ RV X (mask H (al ++ T)) al v w ∧ TPost X sl σ H al T L (g w env L) Q
abbrev BlkP (X : Cx) (scope : Scope) (P : Cx → Prop) : Prop := ∀ (s : Shared) (H : Hp) (C : Addr) (cl : List (Str × Addr)) (fp : List Addr), P (X.blk s H scope (compEnvC scope cl C X.env) fp)
theorem sf_comp {elt tg iter : Expr} {ifs : List Expr} {scope : Scope} {own : List (Str × Nat)} {pos : Pos} {s : Srcf} {sl : List Nat} {g : Va → En → LH → Res En} {t : En → LH → Res Bool} {f : EF} (hc : X.calm = true) (hN : X.N.Nodup) (hi : SI X Wx tg iter s) (ok : BlkOk X.N X.env.scope scope own)
    (hv : ∀ j ∈ sl, j ∈ own.map (·.2)) (hg : BlkP X scope fun X => SG X sl tg g) (ht : BlkP X scope fun X => STs X FX ifs t) (he : BlkP X scope fun X => SE X FX elt f) (hs : ∀ x, foldedSetIterable iter X.env x = pure x := by intro _; rfl) :
    SF X Wx (.ListComp elt [⟨tg, iter, ifs, 0⟩] scope pos) (fComp s g t f (own.map (·.2))) :=
  PE.imp (pe_lc (g := gRd X sl g) (tt := Rdg X FX RB t) (te := Rdg X FX (RV X) f) hc hN hi ok (fun s H C cl fp => hg s H C cl fp) (fun s H C cl fp => ht s H C cl fp) (fun s H C cl fp => he s H C cl fp) hs) fun σ H Q h => lc_red hv (fun _ _ _ h => h) (fun _ _ _ _ h => h) (fun _ _ _ h => h) (fun _ _ _ h => h) h
theorem ss_setComp {i : Nat} {y : Str} {py : Pos} {elt tg iter : Expr} {ifs : List Expr} {scope : Scope} {own : List (Str × Nat)} {pos spos : Pos} {s : Srcf} {sl : List Nat} {g : Va → En → LH → Res En} {t : En → LH → Res Bool} {f : EF} (hc : X.calm = true) (hN : X.N.Nodup) (hy : X.N[i]? = some y) (hyl : X.env.scope.names.lookup y = some .local)
    (hsw : swapsWith (.ListComp elt [⟨tg, iter, ifs, 0⟩] scope pos) (some (.Name y py)) spos.line X.env = pure true) (hi : SI X Wx tg iter s) (ok : BlkOk X.N X.env.scope scope own)
    (hv : ∀ j ∈ sl, j ∈ own.map (·.2)) (hg : BlkP X scope fun X => SG X sl tg g) (ht : BlkP X scope fun X => STs X FX ifs t) (he : BlkP X scope fun X => SE X FX elt f) (hs : ∀ x, foldedSetIterable iter X.env x = pure x := by intro _; rfl) :
    SS X Wx (.Assign [.Name y py] (.ListComp elt [⟨tg, iter, ifs, 0⟩] scope pos) spos) (sSet i (eDat (fComp s g t f (own.map (·.2))))) := by
  refine PS.imp (ps_setLc (g := gRd X sl g) (tt := Rdg X FX RB t) (te := Rdg X FX (RV X) f) hc hN hy hyl hsw hi ok (fun s H C cl fp => hg s H C cl fp) (fun s H C cl fp => ht s H C cl fp) (fun s H C cl fp => he s H C cl fp) hs) ?_
  rintro D σ H ⟨env, L, al, T, c, h⟩
  refine lc_red hv (fun _ _ _ h => h) (fun _ _ _ _ h => h) (fun _ _ _ h => h) (fun _ _ _ h => h) ⟨env, L, al, T, c, ?_⟩
  unfold sSet eDat at h
  revert h
  generalize fComp s g t f (own.map (·.2)) env L = r
  intro h
  cases r with
  | stuck => exact h
  | exc c' f' L1 => exact fun cls d H' al' s e => h cls d σ H' al' s (c.stp s) e
  | ok o L1 =>
    intro a H' al' ha st ob
    simp only [Res.bind_ok] at h
    cases e : o.va with
    | none => rw [e] at h; exact h.elim
    | some w =>
      rw [e] at h
      have r := st.rel
      have na : a ∉ al' ++ T := fun z => by
        rcases List.mem_append.mp z with z | z
        · exact r.dis a z List.mem_cons_self
        · exact (c.rel.fresh ha).2 z
      have m : Le (mask H' (al' ++ (a :: T))) (mask H' (al' ++ T)) := fun b u e => by
        obtain ⟨n, e⟩ := of_mask e
        exact mask_of (fun z => n (by simp only [List.mem_append, List.mem_cons] at z ⊢; exact z.imp id .inr)) e
      have st' := Stp.drop (te := [a]) (fun b hb => by have : b = a := by simpa using hb
                                                       rw [this]; exact ha) st
      exact h _ H' al' st' ((c.stp st').put (va_ok na m ob e))
theorem ss_newComp {i : Nat} {y : Str} {py : Pos} {elt tg iter : Expr} {ifs : List Expr} {scope : Scope} {own : List (Str × Nat)} {pos spos : Pos} {s : Srcf} {sl : List Nat} {g : Va → En → LH → Res En} {t : En → LH → Res Bool} {f : EF} (hc : X.calm = true) (hN : X.N.Nodup) (hy : X.N[i]? = some y) (hyl : X.env.scope.names.lookup y = some .local)
    (hsw : swapsWith (.ListComp elt [⟨tg, iter, ifs, 0⟩] scope pos) (some (.Name y py)) spos.line X.env = pure true) (hi : SI X Wx tg iter s) (ok : BlkOk X.N X.env.scope scope own)
    (hv : ∀ j ∈ sl, j ∈ own.map (·.2)) (hg : BlkP X scope fun X => SG X sl tg g) (ht : BlkP X scope fun X => STs X FX ifs t) (he : BlkP X scope fun X => SE X FX elt f) (hs : ∀ x, foldedSetIterable iter X.env x = pure x := by intro _; rfl) :
    SS X Wx (.Assign [.Name y py] (.ListComp elt [⟨tg, iter, ifs, 0⟩] scope pos) spos) (sSet i (eNew (fComp s g t f (own.map (·.2))))) := by
  refine PS.imp (ps_setLc (g := gRd X sl g) (tt := Rdg X FX RB t) (te := Rdg X FX (RV X) f) hc hN hy hyl hsw hi ok (fun s H C cl fp => hg s H C cl fp) (fun s H C cl fp => ht s H C cl fp) (fun s H C cl fp => he s H C cl fp) hs) ?_
  rintro D σ H ⟨env, L, al, T, c, h⟩
  refine lc_red hv (fun _ _ _ h => h) (fun _ _ _ _ h => h) (fun _ _ _ h => h) (fun _ _ _ h => h) ⟨env, L, al, T, c, ?_⟩
  unfold sSet eNew at h
  revert h
  generalize fComp s g t f (own.map (·.2)) env L = r
  intro h
  cases r with
  | stuck => exact h
  | exc c' f' L1 => exact fun cls d H' al' s e => h cls d σ H' al' s (c.stp s) e
  | ok o L1 =>
    intro a H' al' ha st ob
    have st' := Stp.cell c.rel ha st ob
    refine h _ H' (al' ++ [a]) st' ((c.stp st').put (.loc ?_))
    rw [← st.rel.len, List.getElem?_append_right (Nat.le_refl _), Nat.sub_self]
    rfl
end
end L2.HW
namespace L2.HW
open PySem PySem.Spec PyProof.Rows
abbrev Fn := List Va → LH → Res Va
mutual
/-- no cell from n0 on -/
def Va.low (n0 : Nat) : Va → Bool
  | .loc n => decide (n < n0)
  | .tup ws => lows n0 ws
  | .d _ => true
  | .dct _ => true
  | .exc _ _ => true
  | .scr _ => true
def lows (n0 : Nat) : List Va → Bool
  | [] => true
  | w :: r => w.low n0 && lows n0 r
end
def Ob.low (n0 : Nat) : Ob → Bool
  | .lst ws => lows n0 ws
  | .di kvs => kvs.all fun p => p.2.low n0
  | .dt kvs => kvs.all fun p => p.2.low n0
  | .ins _ fs => fs.all fun p => p.2.low n0
@[simp] theorem low_d (n0 : Nat) (x : PyData) : (Va.d x).low n0 = true := by simp [Va.low]
@[simp] theorem lows_d (n0 : Nat) : ∀ (xs : List PyData), lows n0 (xs.map Va.d) = true
  | [] => by simp [lows]
  | x :: xs => by simp [lows, lows_d n0 xs]
section
variable {K : PySem.W.Frag} {mg : Str → Option Value}
mutual
theorem rp_low {M : Hp} {al : List Addr} : ∀ {v : V} {w : Va}, Rp K mg M al v w → w.low al.length = true
  | _, _, .d q => by simp
  | _, _, .loc e => by simpa [Va.low] using (List.getElem?_eq_some_iff.mp e).1
  | _, _, .scr q => by simp [Va.low]
  | _, _, .tup q r => by simpa [Va.low] using rps_low r
  | _, _, .dct e q => by simp [Va.low]
  | _, _, .exc e q => by simp [Va.low]
theorem rps_low {M : Hp} {al : List Addr} : ∀ {v : List V} {w : List Va}, Rps K mg M al v w → lows al.length w = true
  | _, _, .nil => by simp [lows]
  | _, _, .cons a b => by simp [lows, rp_low a, rps_low b]
end
mutual
theorem low_rp {M M' : Hp} {al be : List Addr} (h : Le M M') : ∀ {v : V} {w : Va}, Rp K mg M (al ++ be) v w → w.low al.length = true → Rp K mg M' al v w
  | _, _, .d q, _ => .d (Dq.le h q)
  | _, _, .loc (n := n) e, l => by
    have l : n < al.length := by simpa [Va.low] using l
    exact .loc (by rw [List.getElem?_append_left l] at e; exact e)
  | _, _, .scr q, _ => .scr (SqL.le h q)
  | _, _, .tup q r, l => .tup (h _ _ q) (low_rps h r (by simpa [Va.low] using l))
  | _, _, .dct e q, _ => .dct (h _ _ e) (KDp.le h q)
  | _, _, .exc e q, _ => .exc (h _ _ e) (ExR.le h q)
theorem low_rps {M M' : Hp} {al be : List Addr} (h : Le M M') : ∀ {v : List V} {w : List Va}, Rps K mg M (al ++ be) v w → lows al.length w = true → Rps K mg M' al v w
  | _, _, .nil, _ => .nil
  | _, _, .cons (b := w) (l₂ := ws) a b, l => by
    have l : w.low al.length = true ∧ lows al.length ws = true := by simpa [lows] using l
    exact .cons (low_rp h a l.1) (low_rps h b l.2)
end
theorem pall {α β : Type} {F : α → β → Prop} {p : β → Bool} (h : ∀ a b, F a b → p b = true) : ∀ {xs : List α} {ys : List β}, Paired F xs ys → ys.all p = true
  | _, _, .nil => rfl
  | _, _, .cons a b => by simp only [List.all_cons, Bool.and_eq_true]; exact ⟨h _ _ a, pall h b⟩
theorem pmapall {α β : Type} {F G : α → β → Prop} {p : β → Bool} (h : ∀ a b, F a b → p b = true → G a b) : ∀ {xs : List α} {ys : List β}, Paired F xs ys → ys.all p = true → Paired G xs ys
  | _, _, .nil, _ => .nil
  | _, _, .cons a b, l => by
    simp only [List.all_cons, Bool.and_eq_true] at l
    exact .cons (h _ _ a l.1) (pmapall h b l.2)
theorem ob_low {M H : Hp} {al : List Addr} {a : Addr} : ∀ {o : Ob}, ObR K mg M al H a o → o.low al.length = true
  | .lst ws, ⟨vs, e, r⟩ => rps_low r
  | .di kvs, ⟨ks, e, r⟩ => pall (fun _ _ q => rp_low q.2) r
  | .dt kvs, ⟨ks, e, r⟩ => pall (fun _ _ q => rp_low q.2) r
  | .ins c fs, ⟨C, dx, ks, e1, e2, r⟩ => pall (fun _ _ q => rp_low q.2) r
theorem low_ob {M M' H : Hp} {al be : List Addr} (h : Le M M') {a : Addr} : ∀ {o : Ob}, ObR K mg M (al ++ be) H a o → o.low al.length = true → ObR K mg M' al H a o
  | .lst ws, ⟨vs, e, r⟩, l => ⟨vs, e, low_rps h r l⟩
  | .di kvs, ⟨ks, e, r⟩, l => ⟨ks, e, pmapall (fun _ _ q n => ⟨q.1, low_rp h q.2 n⟩) r l⟩
  | .dt kvs, ⟨ks, e, r⟩, l => ⟨ks, e, pmapall (fun _ _ q n => ⟨q.1, low_rp h q.2 n⟩) r l⟩
  | .ins c fs, ⟨C, dx, ks, e1, e2, r⟩, l => ⟨C, dx, ks, e1, e2, pmapall (fun _ _ q n => ⟨q.1, low_rp h q.2 n⟩) r l⟩
end
def Kept (L L' : LH) : Prop := ∀ n, n < L.length → L'[n]? = L[n]? ∨ ∃ o, L'[n]? = some (some o) ∧ o.low L.length = true
theorem kept_app (L g : LH) : Kept L (L ++ g) := fun n h => .inl (List.getElem?_append_left h)
@[simp] theorem kept_app' (L g : LH) : Kept L (L ++ g) ↔ True := iff_true_intro (kept_app L g)
@[simp] theorem kept_self (L : LH) : Kept L L ↔ True := iff_true_intro fun n h => .inl rfl
def mapO {α β : Type} (f : α → Option β) : List α → Option (List β)
  | [] => some []
  | a :: r => match f a with
    | some b => match mapO f r with
      | some bs => some (b :: bs)
      | none => none
    | none => none
def settle (L : LH) (n0 : Nat) : Nat → Va → Option Va
  | 0, w => match w with
    | .d x => some (.d x)
    | _ => none
  | k + 1, w => match w with
    | .d x => some (.d x)
    | .loc n => if n < n0 then some (.loc n) else match L[n]? with
      | some (some (.lst ws)) => match mapO (settle L n0 k) ws with
        | some us => (datas us).map fun xs => .d (.list xs)
        | none => none
      | some (some (.di kvs)) => match mapO (fun p : Int × Va => match settle L n0 k p.2 with
            | some (.d x) => some (p.1, x)
            | _ => none) kvs with
        | some ks => some (.dct ks)
        | none => none
      | _ => none
    | .tup ws => match mapO (settle L n0 k) ws with
      | some us => some (mkTup us)
      | none => none
    | w => some w
def settleO (L : LH) (n0 : Nat) (k : Nat) : Ob → Option Va
  | .lst ws => match mapO (settle L n0 k) ws with
    | some us => (datas us).map fun xs => .d (.list xs)
    | none => none
  | .di kvs => match mapO (fun p : Int × Va => match settle L n0 k p.2 with
        | some (.d x) => some (p.1, x)
        | _ => none) kvs with
    | some ks => some (.dct ks)
    | none => none
  | _ => none
theorem settle_loc (L : LH) (n0 k n : Nat) : settle L n0 (k + 1) (.loc n) = if n < n0 then some (.loc n) else match L[n]? with
    | some (some o) => settleO L n0 k o
    | _ => none := by
  conv => lhs; unfold settle
  by_cases h : n < n0
  · simp [h]
  · simp only [h, if_false]
    cases e : L[n]? with
    | none => rfl
    | some o =>
      cases o with
      | none => rfl
      | some o => cases o <;> rfl
@[simp] theorem settle_d (L : LH) (n0 k : Nat) (x : PyData) : settle L n0 k (.d x) = some (.d x) := by cases k <;> rfl
theorem mapO_settle_d (L : LH) (n0 k : Nat) : ∀ xs : List PyData, mapO (settle L n0 k) (xs.map Va.d) = some (xs.map Va.d)
  | [] => rfl
  | x :: xs => by simp [mapO, mapO_settle_d L n0 k xs]
@[simp] theorem settleO_d (L : LH) (n0 k : Nat) (xs : List PyData) : settleO L n0 k (.lst (xs.map Va.d)) = some (.d (.list xs)) := by simp [settleO, mapO_settle_d]
section
variable {K : PySem.W.Frag} {mg : Str → Option Value} {H H' : Hp} {al al' T be : List Addr} {L L' : LH}
theorem mapO_rps {M M' : Hp} {f : Va → Option Va} {al al' : List Addr} (hf : ∀ v w u, Rp K mg M al v w → f w = some u → Rp K mg M' al' v u) : ∀ {vs : List V} {ws us : List Va}, Rps K mg M al vs ws → mapO f ws = some us → Rps K mg M' al' vs us
  | _, _, us, .nil, e => by cases e; exact .nil
  | _, _, us, .cons (b := w) (l₂ := ws) a b, e => by
    unfold mapO at e
    split at e
    · rename_i u e1
      split at e
      · rename_i us' e2
        cases e
        exact .cons (hf _ _ _ a e1) (mapO_rps hf b e2)
      · cases e
    · cases e
theorem mask_more (H : Hp) (al be T : List Addr) : Le (mask H ((al ++ be) ++ T)) (mask H (al ++ T)) := fun b o e => by
  obtain ⟨n, e⟩ := of_mask e
  refine mask_of (fun z => n ?_) e
  simp only [List.mem_append] at z ⊢
  rcases z with z | z
  · exact .inl (.inl z)
  · exact .inr z
theorem settle_ok {L0 : LH} (r0 : al.length = L0.length) (r : Rel K mg H' (al ++ be) T L') : ∀ (k : Nat), (∀ (v : V) (w u : Va), Rp K mg (mask H' ((al ++ be) ++ T)) (al ++ be) v w → settle L' L0.length k w = some u → Rp K mg (mask H' (al ++ T)) al v u) ∧
    (∀ (a : Addr) (o : Ob) (u : Va), a ∉ al → a ∉ T → ObR K mg (mask H' ((al ++ be) ++ T)) (al ++ be) H' a o → settleO L' L0.length k o = some u → Rp K mg (mask H' (al ++ T)) al (.ref a) u) := by
  have m := mask_more H' al be T
  have hO : ∀ k, (∀ (v : V) (w u : Va), Rp K mg (mask H' ((al ++ be) ++ T)) (al ++ be) v w → settle L' L0.length k w = some u → Rp K mg (mask H' (al ++ T)) al v u) →
      (∀ (a : Addr) (o : Ob) (u : Va), a ∉ al → a ∉ T → ObR K mg (mask H' ((al ++ be) ++ T)) (al ++ be) H' a o → settleO L' L0.length k o = some u → Rp K mg (mask H' (al ++ T)) al (.ref a) u) := by
    intro k ih a o u na nT q e
    have hn : a ∉ al ++ T := by simp [na, nT]
    cases o with
    | lst ws =>
      obtain ⟨vs, h1, h2⟩ := q
      simp only [settleO] at e
      split at e
      · rename_i us e1
        cases e5 : datas us with
        | none => rw [e5] at e; cases e
        | some xs =>
          rw [e5] at e
          cases e
          have h3 := mapO_rps ih h2 e1
          rw [datas_eq e5] at h3
          exact .d (.lst (mask_of hn h1) (dq_all h3))
      · cases e
    | di kvs =>
      obtain ⟨ks, h1, h2⟩ := q
      simp only [settleO] at e
      split at e
      · rename_i us e1
        cases e
        refine .dct (mask_of hn h1) ?_
        have go : ∀ {ks : List (Key × V)} {kvs : List (Int × Va)} {us : List (Int × PyData)}, KRp K mg (mask H' ((al ++ be) ++ T)) (al ++ be) ks kvs → mapO (fun p : Int × Va => match settle L' L0.length k p.2 with
            | some (.d x) => some (p.1, x)
            | _ => none) kvs = some us → KDp (mask H' (al ++ T)) ks us := by
          intro ks kvs us h
          induction h generalizing us with
          | nil => intro e; cases e; exact .nil
          | @cons p q ps qs h1 _ ih2 =>
            intro e
            unfold mapO at e
            split at e
            · rename_i b e2
              split at e
              · rename_i bs e3
                cases e
                split at e2
                · rename_i x e4
                  cases e2
                  have h5 := ih _ _ _ h1.2 e4
                  exact .cons ⟨h1.1, rp_d h5⟩ (ih2 e3)
                · cases e2
              · cases e
            · cases e
        exact go h2 e1
      · cases e
    | dt _ => cases e
    | ins _ _ => cases e
  intro k
  induction k with
  | zero =>
    have h0 : ∀ (v : V) (w u : Va), Rp K mg (mask H' ((al ++ be) ++ T)) (al ++ be) v w → settle L' L0.length 0 w = some u → Rp K mg (mask H' (al ++ T)) al v u := by
      intro v w u q e
      cases q with
      | d q => cases e; exact .d (Dq.le m q)
      | loc _ => cases e
      | tup _ _ => cases e
      | dct _ _ => cases e
      | exc _ _ => cases e
      | scr _ => cases e
    exact ⟨h0, hO 0 h0⟩
  | succ k ih =>
    have h0 : ∀ (v : V) (w u : Va), Rp K mg (mask H' ((al ++ be) ++ T)) (al ++ be) v w → settle L' L0.length (k + 1) w = some u → Rp K mg (mask H' (al ++ T)) al v u := by
      intro v w u q e
      cases q with
      | d q => cases e; exact .d (Dq.le m q)
      | @loc n a e1 =>
        rw [settle_loc] at e
        split at e
        · rename_i hlt
          cases e
          exact .loc (by rw [List.getElem?_append_left (by omega)] at e1; exact e1)
        · rename_i hlt
          split at e
          · rename_i o e2
            obtain ⟨b, e3, q3⟩ := r.cell n o e2
            rw [e1] at e3; cases e3
            have ha : a ∈ be := by
              rw [List.getElem?_append_right (by omega)] at e1
              exact List.mem_of_getElem? e1
            have na : a ∉ al := fun z => (List.nodup_append.mp r.nd).2.2 a z a ha rfl
            exact ih.2 a o u na (r.dis a (List.mem_append_right _ ha)) q3 e
          · cases e
      | tup e1 e2 =>
        simp only [settle] at e
        split at e
        · rename_i us e3
          cases e
          exact rp_mkTup (m _ _ e1) (mapO_rps ih.1 e2 e3)
        · cases e
      | dct e1 e2 => cases e; exact .dct (m _ _ e1) (KDp.le m e2)
      | exc e1 e2 => cases e; exact .exc (m _ _ e1) (ExR.le m e2)
      | scr e1 => cases e; exact .scr (SqL.le m e1)
    exact ⟨h0, hO (k + 1) h0⟩
theorem exitS (r0 : Rel K mg H al T L) (s : Stp K mg H al T L H' al' T L') (hk : Kept L L') : Stp K mg H al T L H' al T (L'.take L.length) := by
  obtain ⟨be, e, f⟩ := s.ext
  subst e
  have r := s.rel
  have hl : L.length ≤ L'.length := by have := r.len; have := r0.len; simp at *; omega
  have tk : ∀ n, n < L.length → (L'.take L.length)[n]? = L'[n]? := fun n hn => by rw [List.getElem?_take_of_lt hn]
  refine ⟨⟨by rw [List.length_take, r0.len]; omega, r0.nd, r0.dis, fun a h => r.trk a (h.imp (List.mem_append_left _) id), fun n o en => ?_⟩, ⟨[], by simp, fun _ z => nomatch z⟩, ⟨[], by simp, fun _ z => nomatch z⟩, s.frame, s.stay, fun n en => ?_, fun n o en => ?_⟩
  · have hn : n < L.length := by
      have := (List.getElem?_eq_some_iff.mp en).1
      rw [List.length_take] at this; omega
    rw [tk n hn] at en
    obtain ⟨a, e1, q⟩ := r.cell n o en
    have e1' : al[n]? = some a := by rw [List.getElem?_append_left (by rw [r0.len]; exact hn)] at e1; exact e1
    have lo : o.low al.length = true := by
      rcases hk n hn with z | ⟨o', z, l⟩
      · rw [en] at z
        obtain ⟨b, e2, q2⟩ := r0.cell n o z.symm
        exact ob_low q2
      · rw [en] at z
        cases z
        rw [r0.len]; exact l
    exact ⟨a, e1', low_ob (mask_more H' al be T) q lo⟩
  · rw [tk n (List.getElem?_eq_some_iff.mp en).1]; exact s.lck n en
  · rw [tk n (List.getElem?_eq_some_iff.mp en).1]; exact s.alv n o en
end
open Classical in
noncomputable def outV (L L' : LH) : Option Va → Res Va
  | some w => if Kept L L' then .ok w (L'.take L.length) else .stuck
  | none => .stuck
open Classical in
noncomputable def mkFn (np nl : Nat) (body : SFn) : Fn := fun ws L => if ws.length = np then match body (ws.map some ++ List.replicate (nl - ws.length) none) L with
    | .nx _ L' => outV L L' (some (.d .none))
    | .rt w L' => outV L L' (settle L' L.length 9 w)
    | .rf o L' => outV L L' (settleO L' L.length 9 o)
    | .exc c f _ L' => if Kept L L' then .exc c f (L'.take L.length) else .stuck
    | _ => .stuck
  else .stuck
def NP (np : Nat) (F : Fn) : Prop := ∀ ws L, ws.length ≠ np → F ws L = .stuck
theorem np_mk {np nl : Nat} {body : SFn} : NP np (mkFn np nl body) := fun ws L h => by unfold mkFn; rw [if_neg h]
def NPost (K : PySem.W.Frag) (mg : Str → Option Value) (H : Hp) (al T : List Addr) (L : LH) (r : Res Va) (Q : VK) (E : XK) : Prop := match r with
  | .ok w L' => ∀ v H' al', Stp K mg H al T L H' al' T L' → Rp K mg (mask H' (al' ++ T)) al' v w → Q v H'
  | .exc c f L' => ∀ cls d H' al', Stp K mg H al T L H' al' T L' → ExR mg (mask H' (al' ++ T)) c f cls d → E cls d H'
  | .stuck => False
def spOf (K : PySem.W.Frag) (mg : Str → Option Value) (np : Nat) (F : Fn) : Sp := fun vs H Q E => vs.length = np ∧ ∃ ws al T L, Rel K mg H al T L ∧ Rps K mg (mask H (al ++ T)) al vs ws ∧ NPost K mg H al T L (F ws L) Q E
theorem conf_start {K : PySem.W.Frag} {mg : Str → Option Value} {N : List Str} {H : Hp} {al T : List Addr} {L : LH} {vs : List V} {ws : List Va} (r : Rel K mg H al T L) (rs : Rps K mg (mask H (al ++ T)) al vs ws) (hl : vs.length ≤ N.length) :
    Conf K mg (L2.start N vs) H (ws.map some ++ List.replicate (N.length - ws.length) none) L al T := by
  have e := Paired.length rs
  refine ⟨r, ?_, fun i w h => ?_⟩
  · unfold L2.start
    simp only [List.length_append, List.length_map, List.length_replicate]
    omega
  · have hi : i < ws.length := by
      by_cases hi : i < ws.length
      · exact hi
      · rw [List.getElem?_append_right (by simpa using hi), List.getElem?_replicate] at h
        split at h <;> cases h
    rw [List.getElem?_append_left (by simpa using hi), List.getElem?_map] at h
    cases e2 : ws[i]? with
    | none => rw [e2] at h; cases h
    | some u =>
      rw [e2] at h
      cases h
      have go : ∀ {vs : List V} {ws : List Va} {i : Nat}, Rps K mg (mask H (al ++ T)) al vs ws → ws[i]? = some w → ∃ v, vs[i]? = some v ∧ Rp K mg (mask H (al ++ T)) al v w := by
        intro vs ws i h
        induction h generalizing i with
        | nil => intro e; simp at e
        | @cons v u vs us a b ih =>
          intro e
          cases i with
          | zero => simp at e; subst e; exact ⟨v, rfl, a⟩
          | succ i => exact ih (by simpa using e)
      obtain ⟨v, h1, h2⟩ := go rs e2
      refine ⟨v, ?_, h2⟩
      unfold L2.start
      rw [List.getElem?_append_left (by simpa using (List.getElem?_eq_some_iff.mp h1).1), List.getElem?_map, h1]
      rfl
structure FnG (P : Program) (w : World) (K : PySem.W.Frag) (mg : Str → Option Value) (base : Heap) (CX : CXT) (k : Nat) (f : Addr) (fd : FuncData) (ps : List Str) (sp : Sp) : Prop where
  ln : ∀ us H Q E, sp us H Q E → us.length = ps.length
  go : ∀ (A : Around) (out : List Env) (s : Shared) (H : Hp) (ar : Args) (us : List Value) (vs : List V) (Q : VK) (E : XK), A.guards = some [] → Room k A →
    Env0 P w K mg base A out s H → BindsTo s fd ar (ps.zip us) → Vals vs us → sp vs H Q E → codeAny (model P w) A (.call (.ref f) ar) (CR CX out P w H s Q E) s
theorem FnG.more {P : Program} {w : World} {K : PySem.W.Frag} {mg : Str → Option Value} {base : Heap} {CX : CXT} {i k : Nat} {f : Addr} {fd : FuncData} {ps : List Str} {sp : Sp}
    (F : FnG P w K mg base CX i f fd ps sp) (h : i ≤ k) : FnG P w K mg base CX k f fd ps sp :=
  ⟨F.ln, fun A out s H ar us vs Q E hg hr => F.go A out s H ar us vs Q E hg (hr.mono h)⟩
theorem fnG_of {CX : CXT} {P : Program} {w : World} {K : PySem.W.Frag} {mg : Str → Option Value} {base : Heap} {k : Nat} {f : Addr} {nm qual : Str} {pars : Arguments} {body : List Stmt} {sc : Scope}
    {dvs : List V} {kws : List (Str × V)} {fd : FuncData} {N ps : List Str} {sp : Sp} (F : FunD K nm qual pars body sc dvs kws f fd) (S : FnScope N ps sc)
    (ln : ∀ us H Q E, sp us H Q E → us.length = ps.length)
    (hb : ∀ (cd : Value) (A : Around) (out : List Env) (s : Shared) (H : Hp) (vs : List V) (Q : VK) (E : XK), A.guards = some [] → Room k (A.deeper (envOfC qual sc s.heap.objs.size f cd)) → sp vs H Q E →
      ∃ t, PSs (cxOf CX P w K mg base N qual sc f cd A out s H E) body t ∧ t { nx := fun _ H1 => Q .non H1, rt := Q } (L2.start N vs) H) :
    FnG P w K mg base CX (k + 1) f fd ps sp := by
  obtain ⟨oc, od, dV, kV, doc, pm, an, cd, ct, osl, rfl, lk, hcode, _, _⟩ := F.ex
  refine ⟨ln, ?_⟩
  intro A out s H ar us vs Q E hg hr en bt rv hsp
  have kin : K.In s.heap := en.mod.kin.keeps fun b o z => (en.bs b o z).1
  have nl : s.heap.NoLimit := en.mod.nolimit.keeps fun b o z => (en.bs b o z).1
  have hk : ∀ z ∈ ps.zip us, sc.names.lookup z.1 = some .local ∨ (sc.names.lookup z.1 = some .cell ∧ ((cellsFrom (s.heap.objs.size + 1) sc.names []).lookup z.1).isSome = true) := by
    rintro ⟨n, v⟩ hz
    exact (S.par n (List.of_mem_zip hz).1).imp id fun q => ⟨q, PySem.W.cellsFrom_some _ _ _ (.inl q)⟩
  refine codeAny_call_function hr.depth (kin _ _ lk) rfl S.co S.gen rfl (PySem.W.codeRec_of kin hcode) (bt _ _ _ _ ?_)
  refine wpAny_newFunctionEnv_cells S.kind hk fun env ee s1 fresh => ?_
  subst ee
  refine ⟨nl.keeps fresh.toInCall.keep, codeAny_func ?_⟩
  obtain ⟨t, run, start⟩ := hb cd A out s H vs Q E hg (hr.deeper _) hsp
  have inv := inv_start (E := E) (CX := CX) S hr.hd en (ln _ _ _ _ hsp) rv fresh
  refine wpAny_mono (run.run [] s1 (L2.start N vs) H _ inv start) (fun fl s2 z => ?_) fun _ _ z => z
  match fl, z with
  | .ret u, ⟨v, σ2, H2, J, r2, q⟩ => exact ⟨v, H2, J.os, J.bare, J.base, J.hok, r2, q⟩
  | .next, ⟨σ2, H2, J, q⟩ => exact ⟨.non, H2, J.os, J.bare, J.base, J.hok, rfl, q⟩
  | .brk, ⟨_, _, _, q⟩ => exact q.elim
  | .cont, ⟨_, _, _, q⟩ => exact q.elim
theorem run_fnG {X : Cx} {CX : CXT} {k : Nat} {f : Addr} {fd : FuncData} {ps : List Str} {sp : Sp} {E : St → XK} {pins : List (Addr × Obj)} {σ : St} {H : Hp} {s : Shared} {Q : VK} {us : List Value} {vs : List V}
    (F : FnG X.prog X.w X.K X.mg X.base CX k f fd ps sp) (hg : X.A.guards = some []) (hr : Room k X.A) (hb : Binds X.K fd ps []) (hx : PassesAt CX X σ (E σ)) (I : Inv X pins σ H s) (rv : Vals vs us) (h : sp vs H Q (E σ)) :
    wpAny (model X.prog X.w) X.A (call (.ref f) us) (EP X pins σ Q) X.xe s := by
  have bt : BindsTo s fd ⟨us, []⟩ (ps.zip us) := by
    have z := hb s us I.kIn (by rw [List.append_nil, ← rv.length]; exact F.ln _ _ _ _ h)
    rwa [List.append_nil] at z
  refine wpAny_call (codeAny_mono (F.go X.A X.stack s H ⟨us, []⟩ us vs Q (E σ) hg hr I.env0 bt rv h) ?_)
  intro r s2 z
  match r, z with
  | .error e, z => exact hx pins H s e s2 I z
  | .ok (.ret u), z => exact I.after z
  | .ok .next, z => exact z.elim
  | .ok .brk, z => exact z.elim
  | .ok .cont, z => exact z.elim
section
variable {P : Program} {w : World} {K : PySem.W.Frag} {mg : Str → Option Value} {base : Heap} {x qual : Str} {params : Arguments} {body : List Stmt} {scope : Scope} {dvs : List V} {kws : List (Str × V)} {f : Addr} {fd : FuncData}
abbrev WxE (E : XK) : WX := fun cls d _ H => E cls d H
theorem body_end {K : PySem.W.Frag} {mg : Str → Option Value} {H : Hp} {al T : List Addr} {L : LH} {X : Cx} (hK : X.K = K) (hmg : X.mg = mg) {Q : VK} {E : XK} {np nl : Nat} {bf : SFn} {ws : List Va} (r0 : Rel K mg H al T L) (hl : ws.length = np)
    (h : NPost K mg H al T L (mkFn np nl bf ws L) Q E) : SPost X (WxE E) H al T L (bf (ws.map some ++ List.replicate (nl - ws.length) none) L) { nx := fun _ H' => Q .non H', rt := Q } := by
  subst hK hmg
  unfold mkFn at h
  rw [if_pos hl] at h
  revert h
  generalize bf (ws.map some ++ List.replicate (nl - ws.length) none) L = r
  intro h
  have one : ∀ (o : Option Va) (L' : LH) (v : V) (H' : Hp) (al' : List Addr), NPost X.K X.mg H al T L (outV L L' o) Q E → Stp X.K X.mg H al T L H' al' T L' → (∀ u be, al' = al ++ be → o = some u → Rp X.K X.mg (mask H' (al ++ T)) al v u) → Q v H' := by
    intro o L' v H' al' h s k
    cases o with
    | none => exact h.elim
    | some u =>
      simp only [outV] at h
      split at h
      · rename_i hk
        obtain ⟨be, e, _⟩ := s.ext
        exact h v H' al (exitS r0 s hk) (k u be e rfl)
      · exact h.elim
  cases r with
  | nx env' L' => exact fun σ' H' al' s c => one _ L' .non H' al' h s fun u be e eu => by cases eu; exact .d .non
  | rt u L' =>
      intro v H' al' s q
      refine one _ L' v H' al' h s fun u' be e eu => ?_
      subst e
      exact (settle_ok r0.len s.rel 9).1 v u u' q eu
  | rf o L' =>
      intro a H' al' ha s q
      have s' := Stp.drop (te := [a]) (fun b hb => by have : b = a := by simpa using hb
                                                      rw [this]; exact ha) s
      refine one _ L' (.ref a) H' al' h s' fun u' be e eu => ?_
      subst e
      have n := r0.fresh ha
      refine (settle_ok r0.len s'.rel 9).2 a o u' n.1 n.2 ?_ eu
      have m : Le (mask H' ((al ++ be) ++ (a :: T))) (mask H' ((al ++ be) ++ T)) := fun b u e => by
        obtain ⟨n, e⟩ := of_mask e
        exact mask_of (fun z => n (by simp only [List.mem_append, List.mem_cons] at z ⊢; exact z.imp id .inr)) e
      exact ObR.le m (ALe.refl _) (fun _ z => z) q
  | bk _ _ => exact h.elim
  | ct _ _ => exact h.elim
  | exc c f env' L' =>
    intro cls d σ' H' al' s _ q
    simp only at h
    split at h
    · rename_i hk
      obtain ⟨be, e, _⟩ := s.ext
      subst e
      exact h cls d H' al (exitS r0 s hk) (ExR.le (mask_more H' al be T) q)
    · exact h.elim
  | stuck => exact h.elim
theorem fn_body (F : FunD K x qual params body scope dvs kws f fd) {N ps : List Str} {k np nl : Nat} {bf : SFn} (S : FnScope N ps scope) (hnp : ps.length = np) (hnl : N.length = nl) (hle : np ≤ nl)
    (hb : ∀ (cdv : Value) (A : Around) (outer : List Env) (s : Shared) (H : Hp) (E : XK), A.guards = some [] → Room k (A.deeper (envOfC qual scope s.heap.objs.size f cdv)) → SB (cxOf (L2.CX P w) P w K mg base N qual scope f cdv A outer s H E) (WxE E) body bf) :
    FnG P w K mg base (L2.CX P w) (k + 1) f fd ps (spOf K mg np (mkFn np nl bf)) := by
  refine fnG_of F S (fun vs H Q E h => by rw [h.1, hnp]) (fun cdv A outer s H vs Q E hg hr h => ⟨_, hb cdv A outer s H E hg hr, ?_⟩)
  obtain ⟨hl, ws, al, T, L, r, rs, h⟩ := h
  have e := Paired.length rs
  subst hnl
  refine ⟨_, L, al, T, conf_start r rs (by omega), ?_⟩
  exact body_end (X := cxOf (L2.CX P w) P w K mg base N qual scope f cdv A outer s H E) rfl rfl r (by omega) h
end
section
variable {X : Cx} {Wx : WX} {k : Nat} {f : Addr} {fd : FuncData} {ps : List Str} {np : Nat} {F : Fn} {x : Str} {p pos : Pos} {e : Expr} {es : List Expr} {fs : En → LH → Res (List Va)}
def eCall (F : Fn) (fs : En → LH → Res (List Va)) : EF := fun env L => (fs env L).bind F
theorem call_sp {σ : St} {H : Hp} {Q : VK} (n : NP np F) (h : Rdg X Wx (RV X) (eCall F fs) σ H Q) : tCallS (spOf X.K X.mg np F) (WE Wx) (Rdg X Wx (RVs X) fs) σ H Q := by
  obtain ⟨env, L, al, T, c, q⟩ := h
  refine rseq (R := RVs X) c q fun vs H1 ws L1 al1 c1 s1 r1 q1 => ?_
  have hl : ws.length = np := by
    by_cases z : ws.length = np
    · exact z
    · rw [n ws L1 z] at q1; exact q1.elim
  refine ⟨by rw [Paired.length r1, hl], ws, al1, T, L1, c1.rel, r1, ?_⟩
  revert q1
  generalize F ws L1 = r
  intro q1
  cases r with
  | ok w L2 => exact fun v H' al' s q => q1 v H' al' s q
  | exc c f L2 => exact fun cls d H' al' s q => q1 cls d H' al' s q
  | stuck => exact q1
theorem pe_callG {sp : Sp} {E : St → XK} {t : TA} (G : FnG X.prog X.w X.K X.mg X.base (L2.CX X.prog X.w) k f fd ps sp) (hg0 : X.A.guards = some []) (hr : Room k X.A) (hg : Gl X x) (hm : X.mg x = some (.ref f)) (hk : PySem.W.keepIn X.K (.ref f) = true)
    (hb : Binds X.K fd ps []) (hx : ∀ σ, PassesAt (L2.CX X.prog X.w) X σ (E σ)) (ha : PA X (e :: es) t) (hdb : (x == ("__debug__" : Str)) = false) (he : starEach (e :: es) X.env = (false, eval e X.env) :: starEach es X.env)
    (hpl : (backTo pos (starEach es X.env)).any (·.1) = false) : PE X (.Call (.Name x p) (e :: es) [] pos) (tCallS sp E t) := by
  refine ⟨fun pins s σ H Q I h => wpAny_Call_Name_kw (ld_glob I hg hm ?_ hdb)⟩
  exact PySem.W.callWith_K (h₀ := X.base) I.ok.mod.kin hk (thn (ha.run pos pins s σ H _ I h) fun us s1 ⟨vs, H1, I1, r, q⟩ => ⟨I1.kIn, run_fnG G hg0 hr hb (hx σ) I1 r q⟩) he hpl
theorem se_call (G : FnG X.prog X.w X.K X.mg X.base (L2.CX X.prog X.w) k f fd ps (spOf X.K X.mg np F)) (n : NP np F) (tk : Takes X Wx) (hg0 : X.A.guards = some []) (hr : Room k X.A) (hg : Gl X x) (hm : X.mg x = some (.ref f)) (hk : PySem.W.keepIn X.K (.ref f) = true) (hb : Binds X.K fd ps [])
    (ha : SA X Wx (e :: es) fs) (hdb : (x == ("__debug__" : Str)) = false := by decide) (he : starEach (e :: es) X.env = (false, eval e X.env) :: starEach es X.env := by rfl) (hpl : (backTo pos (starEach es X.env)).any (·.1) = false := by rfl) :
    SE X Wx (.Call (.Name x p) (e :: es) [] pos) (eCall F fs) :=
  PE.imp (pe_callG (E := WE Wx) G hg0 hr hg hm hk hb (fun σ => passAt tk σ) ha hdb he hpl) fun _ _ _ h => call_sp n h
theorem pe_call0G {sp : Sp} {E : St → XK} (G : FnG X.prog X.w X.K X.mg X.base (L2.CX X.prog X.w) k f fd ps sp) (hg0 : X.A.guards = some []) (hr : Room k X.A) (hg : Gl X x) (hm : X.mg x = some (.ref f)) (hk : PySem.W.keepIn X.K (.ref f) = true) (hb : Binds X.K fd ps []) (hx : ∀ σ, PassesAt (L2.CX X.prog X.w) X σ (E σ))
    (hdb : (x == ("__debug__" : Str)) = false := by decide) : PE X (.Call (.Name x p) [] [] pos) (fun σ H Q => sp [] H Q (E σ)) := by
  refine ⟨fun pins s σ H Q I h => ?_⟩
  refine wpAny_Call_Name_kw (ld_glob I hg hm ?_ hdb)
  exact PySem.W.callWith_K0 I.kIn hk (run_fnG (us := []) G hg0 hr hb (hx σ) I .nil h)
theorem se_call0 (G : FnG X.prog X.w X.K X.mg X.base (L2.CX X.prog X.w) k f fd ps (spOf X.K X.mg np F)) (n : NP np F) (tk : Takes X Wx) (hg0 : X.A.guards = some []) (hr : Room k X.A) (hg : Gl X x) (hm : X.mg x = some (.ref f)) (hk : PySem.W.keepIn X.K (.ref f) = true) (hb : Binds X.K fd ps [])
    (hdb : (x == ("__debug__" : Str)) = false := by decide) : SE X Wx (.Call (.Name x p) [] [] pos) (eCall F aNil) :=
  PE.imp (pe_call0G (E := WE Wx) G hg0 hr hg hm hk hb (fun σ => passAt tk σ) hdb) fun σ H Q ⟨env, L, al, T, c, q⟩ => by
    have q : GPost X Wx σ H al T L (RV X) (F [] L) Q := q
    have hl : 0 = np := by
      by_cases z : ([] : List Va).length = np
      · exact z
      · rw [n [] L z] at q; exact q.elim
    refine ⟨hl, [], al, T, L, c.rel, .nil, ?_⟩
    revert q
    generalize F [] L = r
    intro q1
    cases r with
    | ok w L2 => exact fun v H' al' s q => q1 v H' al' s q
    | exc c f L2 => exact fun cls d H' al' s q => q1 cls d H' al' s q
    | stuck => exact q1
end
end L2.HW
namespace L2.HW
open PySem PySem.Spec PyProof.Rows
section
variable {X : Cx} {Wx : WX}
def eMeth (chk : LH → Va → Bool) (g : Va → List Va → LH → Res Va) (fo : EF) (fs : En → LH → Res (List Va)) : EF := fun env L => (fo env L).bind fun w L1 => if chk L1 w then (fs env L1).bind fun ws L2 => g w ws L2 else .stuck
def OkM (X : Cx) (r : V → List V → Hp → VK → Prop) (g : Va → List Va → LH → Res Va) : Prop := ∀ (Wx : WX) (σ : St) (H : Hp) (al T : List Addr) (L : LH) (x : V) (xs : List V) (w : Va) (ws : List Va) (Q : VK), Rel X.K X.mg H al T L → RV X (mask H (al ++ T)) al x w → RVs X (mask H (al ++ T)) al xs ws →
  GPost X Wx σ H al T L (RV X) (g w ws L) Q → r x xs H Q
def OkTy (X : Cx) (T : String) (chk : LH → Va → Bool) : Prop := ∀ (H : Hp) (al U : List Addr) (L : LH) (x : V) (w : Va), Rel X.K X.mg H al U L → RV X (mask H (al ++ U)) al x w → chk L w = true → tyV X.K T x H
variable {o : Expr} {es : List Expr} {e : Expr} {fo : EF} {fs : En → LH → Res (List Va)} {name : Str} {apos cpos : Pos} {T id : String} {r : V → List V → Hp → VK → Prop} {chk : LH → Va → Bool} {g : Va → List Va → LH → Res Va}
theorem se_meth (pa : PlainAttrs T) (slot : Slot T name id) (hty : typeOf (.builtin id) = pure (.type "method_descriptor")) (hm : MtR X id r) (ok : OkM X r g) (ty : OkTy X T chk) (ho : SE X Wx o fo) (ha : SA X Wx (e :: es) fs)
    (hbase : attributeBase o name X.env (eval o X.env) = eval o X.env := by rfl)
    (hfew : ((backTo cpos (starEach (e :: es) X.env)).all (fun x => !x.1) && (backToKw cpos (keywordEach [] X.env)).all (fun x => x.1.isSome)
      && decide ((e :: es).length + ([] : List Keyword).length + (if ([] : List Keyword).isEmpty then 0 else 1) < 30)) = true := by rfl)
    (hline : (apos.endLine == cpos.line) = true := by rfl) (hs : starEach (e :: es) X.env = (false, eval e X.env) :: starEach es X.env := by rfl) (hplain : (backTo cpos (starEach es X.env)).any (·.1) = false := by rfl) :
    SE X Wx (.Call (.Attribute o name apos) (e :: es) [] cpos) (eMeth chk g fo fs) :=
  PE.imp (pe_bm pa slot hty hm ho ha hbase hfew hline hs hplain) fun σ H Q ⟨env, L, al, U, c, h⟩ => by
    refine rseq (R := RV X) c h fun v H1 w L1 al1 c1 s1 r1 h1 => ?_
    split at h1
    · rename_i hc
      refine ⟨ty H1 al1 U L1 v w c1.rel r1 hc, ?_⟩
      refine rseq (R := RVs X) c1 h1 fun vs H2 ws L2 al2 c2 s2 r2 h2 => ?_
      exact ok Wx σ H2 al2 U L2 v vs w ws Q c2.rel (s2.rp r1) r2 h2
    · exact h1.elim
def isLs : LH → Va → Bool := fun L w => match w with
  | .d (.list _) => true
  | .loc n => match L[n]? with
    | some (some (.lst _)) => true
    | _ => false
  | _ => false
theorem ty_list : OkTy X "list" isLs := by
  intro H al U L x w r q h
  unfold isLs at h
  split at h
  · obtain ⟨a, vs, rfl, sq, _⟩ := seq_ok r q (seq_list L _)
    cases q with
    | d q => cases q with | lst e1 e2 => exact .inl ⟨rfl, _, SqL.of (of_mask e1).2⟩
  · split at h
    · rename_i n ws e
      obtain ⟨a, vs, rfl, _, e3, _⟩ := loc_lst r q e
      exact .inl ⟨rfl, vs, SqL.of e3⟩
    · cases h
  · cases h
theorem gset {σ : St} {H : Hp} {al T : List Addr} {L : LH} {n : Nat} {a : Addr} {ws us : List Va} {vs : List V} {w : Va} {v : V} {Q : VK} (r : Rel X.K X.mg H al T L) (ea : al[n]? = some a) (e : L[n]? = some (some (.lst ws)))
    (h : GPost X Wx σ H al T L (RV X) (.ok w (L.set n (some (.lst us)))) Q) (rv : RVs X (mask H (al ++ T)) al vs us) (rw_ : RV X (mask H (al ++ T)) al v w) : Q v (upd H a (.lst vs)) := by
  have m : mask (upd H a (.lst vs)) (al ++ T) = mask H (al ++ T) := mask_in (List.mem_append_left _ (List.mem_of_getElem? ea))
  exact h v _ al (Rel.write r ea e ⟨vs, upd_same, rv⟩) (by rw [m]; exact rw_)
def mAppend : Va → List Va → LH → Res Va := fun w ws L => match w, ws with
  | .loc n, [v] => match L[n]? with
    | some (some (.lst us)) => if us.length < sizeLine then .ok (.d .none) (L.set n (some (.lst (us ++ [v])))) else .stuck
    | _ => .stuck
  | _, _ => .stuck
theorem ok_append : OkM X rAppend mAppend := by
  intro Wx σ H al T L x xs w ws Q r q qs h
  unfold mAppend at h
  split at h
  · rename_i n v
    split at h
    · rename_i us e
      split at h
      · rename_i hz
        obtain ⟨a, vs, rfl, ea, ha, rr⟩ := loc_lst r q e
        obtain ⟨y, rfl, qy⟩ := rps_1 qs
        exact ⟨a, vs, y, rfl, rfl, ha, by rw [Paired.length rr]; exact hz, gset r ea e h (rps_app rr (.cons qy .nil)) (.d .non)⟩
      · exact h.elim
    · exact h.elim
  · exact h.elim
theorem se_append (ho : SE X Wx o fo) (ha : SA X Wx [e] fs) (hbase : attributeBase o "append" X.env (eval o X.env) = eval o X.env := by rfl)
    (hfew : ((backTo cpos (starEach [e] X.env)).all (fun x => !x.1) && (backToKw cpos (keywordEach [] X.env)).all (fun x => x.1.isSome)
      && decide ([e].length + ([] : List Keyword).length + (if ([] : List Keyword).isEmpty then 0 else 1) < 30)) = true := by rfl)
    (hline : (apos.endLine == cpos.line) = true := by rfl) (hs : starEach [e] X.env = (false, eval e X.env) :: starEach [] X.env := by rfl) (hplain : (backTo cpos (starEach [] X.env)).any (·.1) = false := by rfl) :
    SE X Wx (.Call (.Attribute o "append" apos) [e] [] cpos) (eMeth isLs mAppend fo fs) :=
  se_meth PySem.F.plainAttrs_list PySem.F.slot_list_append PySem.F.type_list_append mt_append ok_append ty_list ho ha hbase hfew hline hs hplain
def mInsert : Va → List Va → LH → Res Va := fun w ws L => match w, ws with
  | .loc n, [.d (.int i), v] => match L[n]? with
    | some (some (.lst us)) => if us.length < sizeLine ∧ 0 ≤ i ∧ i < 2 ^ 63 then .ok (.d .none) (L.set n (some (.lst (us.take i.toNat ++ [v] ++ us.drop i.toNat)))) else .stuck
    | _ => .stuck
  | _, _ => .stuck
def mPop0 : Va → List Va → LH → Res Va := fun w ws L => match w, ws with
  | .loc n, [] => match L[n]? with
    | some (some (.lst us)) => match us[us.length - 1]? with
      | some u => .ok u (L.set n (some (.lst us.dropLast)))
      | none => .stuck
    | _ => .stuck
  | _, _ => .stuck
def eNeg (f : EF) : EF := fun env L => (f env L).bind fun w L1 => match w with
  | .d (.int i) => .ok (.d (.int (-i))) L1
  | _ => .stuck
theorem se_neg {a : Expr} {f : EF} {pos : Pos} (h : SE X Wx a f) : SE X Wx (.UnaryOp .USub a pos) (eNeg f) :=
  PE.imp (pe_un un_neg h) fun σ H Q ⟨env, L, al, U, c, h⟩ => by
    refine rseq (R := RV X) c h fun v H1 w L1 al1 c1 s1 r1 h1 => ?_
    split at h1
    · rename_i i
      exact ⟨i, dq_int (rp_d r1), gok c1.rel h1 (.d (.int _))⟩
    · exact h1.elim
mutual
theorem dq_reads {pins : List (Addr × Obj)} {σ : St} {H : Hp} {s : Shared} (I : Inv X pins σ H s) : ∀ {v : V} {x : PyData} {u : Value}, Dq H v x → RelV v u → ∃ as, Reads s.heap u x as
  | _, _, _, .non, r => by cases r; exact ⟨_, .none⟩
  | _, _, _, .bl b, r => by cases r; exact ⟨_, .bool b⟩
  | _, _, _, .int i, r => by obtain ⟨t, rfl⟩ := r; exact ⟨_, .int i t⟩
  | _, _, _, .str x, r => by obtain ⟨t, rfl⟩ := r; exact ⟨_, .str x t⟩
  | _, _, _, .lst e q, r => by
    cases r
    obtain ⟨z, its, n, rv, hl, e2⟩ := I.lstM e
    obtain ⟨as, ra⟩ := dqs_reads I q rv
    exact ⟨_, .list e2 rfl rfl (by simpa using ra)⟩
  | _, _, _, .tup e q, r => by
    cases r
    obtain ⟨_, its, rv, o, e2, c, n, d⟩ := I.hok _ _ e
    obtain ⟨as, ra⟩ := dqs_reads I q rv
    exact ⟨_, .tuple e2 c d (by simpa using ra)⟩
theorem dqs_reads {pins : List (Addr × Obj)} {σ : St} {H : Hp} {s : Shared} (I : Inv X pins σ H s) : ∀ {v : List V} {x : List PyData} {u : List Value}, DqAll H v x → Vals v u → ∃ as, ReadsAll s.heap u x as
  | _, _, _, .nil, .nil => ⟨_, .nil⟩
  | _, _, _, .cons a b, .cons c d => by
    obtain ⟨_, h1⟩ := dq_reads I a c
    obtain ⟨_, h2⟩ := dqs_reads I b d
    exact ⟨_, .cons h1 h2⟩
end
mutual
theorem dq_noDict {H : Hp} : ∀ {v : V} {x : PyData}, Dq H v x → x.hasDict = false
  | _, _, .non => by simp [PyData.hasDict]
  | _, _, .bl b => by simp [PyData.hasDict]
  | _, _, .int i => by simp [PyData.hasDict]
  | _, _, .str x => by simp [PyData.hasDict]
  | _, _, .lst e q => by simp [PyData.hasDict, dqs_noDict q]
  | _, _, .tup e q => by simp [PyData.hasDict, dqs_noDict q]
theorem dqs_noDict {H : Hp} : ∀ {v : List V} {x : List PyData}, DqAll H v x → PyData.hasDictAll x = false
  | _, _, .nil => by simp [PyData.hasDictAll]
  | _, _, .cons a b => by simp [PyData.hasDictAll, dq_noDict a, dqs_noDict b]
end
def okShow (x : PyData) : Prop := x.showable = true ∧ x.depth < 180 ∧ x.shown.length ≤ sizeLine
def rRepr : List V → Hp → VK → Prop := fun xs H Q => ∃ v x, xs = [v] ∧ Dq H v x ∧ okShow x ∧ Q (.str x.shown) H
theorem call_reprD (hg : X.A.guards = some []) (hu : X.A.units + 200 < cLine) : CallR X (.builtin "repr") rRepr := by
  intro pins s σ H xs us Q I r h
  obtain ⟨v, x, rfl, dq, ⟨h1, h2, h3⟩, q⟩ := h
  obtain ⟨u, rfl, ru⟩ := Vals.one r
  cases dq with
  | non => cases ru; exact PySem.P.repr_of_none ⟨.str _, H, I.tok _, ⟨_, rfl⟩, q⟩
  | bl b => cases ru; exact PySem.P.repr_of_bool ⟨.str _, H, I.tok _, ⟨_, rfl⟩, q⟩
  | int i => obtain ⟨t, rfl⟩ := ru; exact PySem.P.repr_of_int (by simpa [PyData.showable] using h1) ⟨.str _, H, I.tok _, ⟨_, rfl⟩, q⟩
  | str z => obtain ⟨t, rfl⟩ := ru; exact PySem.P.repr_of_str ⟨.str _, H, I.tok _, ⟨_, rfl⟩, q⟩ (by simpa [PyData.shown] using h3)
  | lst e d =>
    cases ru
    obtain ⟨as, ra⟩ := dq_reads I (.lst e d) rfl
    exact PySem.repr_of_reads' ra h1 (PyData.noDict_hsm (dq_noDict (Dq.lst e d))) hg (by omega) (fun _ _ e => e) (fun h' u tk k => ⟨.str _, H, I.kept k, ⟨_, rfl⟩, q⟩) h3
  | tup e d =>
    cases ru
    obtain ⟨as, ra⟩ := dq_reads I (.tup e d) rfl
    exact PySem.repr_of_reads' ra h1 (PyData.noDict_hsm (dq_noDict (Dq.tup e d))) hg (by omega) (fun _ _ e => e) (fun h' u tk k => ⟨.str _, H, I.kept k, ⟨_, rfl⟩, q⟩) h3
open Classical in
noncomputable def cRepr : List Va → LH → Res Va := fun ws L => match ws with
  | [w] => match w.data L with
    | some x => if okShow x then .ok (.d (.str x.shown)) L else .stuck
    | none => .stuck
  | _ => .stuck
theorem ok_repr : OkC X rRepr cRepr := by
  intro Wx σ H al T L xs ws Q r q h
  unfold cRepr at h
  split at h
  · rename_i w
    obtain ⟨v, rfl, q1⟩ := rps_1 q
    split at h
    · rename_i x e
      split at h
      · rename_i hs
        exact ⟨v, x, rfl, data_ok r q1 e, hs, gok r h (.d (.str _))⟩
      · exact h.elim
    · exact h.elim
  · exact h.elim
end
end L2.HW
namespace HT
open PySem PySem.Spec PyProof.Rows
end HT
namespace L2.HW
open PySem PySem.Spec PyProof.Rows
section
variable {X : Cx} {Wx : WX}
def eRev (f : EF) : EF := fun env L => (f env L).bind fun w L1 => match w.data L1 with
  | some (.list xs) => .ok (.d (.list xs.reverse)) L1
  | some (.tuple xs) => .ok (.d (.tuple xs.reverse)) L1
  | _ => .stuck
end
end L2.HW
namespace L2.HW
open PySem PySem.Spec PyProof.Rows
theorem cx_none {P : Program} {w : World} {H : Hp} {s : Shared} {e : Value} {s' : Shared} (h : L2.CX P w [] H s (fun _ _ _ => False) e s') : False := by
  obtain ⟨_, _, _, _, _, _, _, _, _, _, _, _, z⟩ := h
  exact z
theorem law_runs {P : Program} {w : World} {K : PySem.W.Frag} {mg mb : Str → Option Value} {k : Nat} {fa a : Addr} {x : Str} {sp : Sp} {s : Shared} {vs : List Value} {ns : List Int}
    (kin : K.In s.heap) (gl : s.heap.Ns mainGlobals mg) (bl : s.heap.Ns builtinsNs mb) (bb : ∀ x : Str, x ≠ "__name__" → mb x = bootBuiltins x) (nl : s.heap.NoLimit) (ng : s.gens = #[])
    (at_ : s.heap.get? a = some { cls := .type "list", data := .seq vs.toArray }) (hi : IntsAre vs ns) (hn : ns.length ≤ sizeLine) (hr : Room k callerA)
    (F : ∀ base : Heap, K.In base → base.Ns mainGlobals mg → ∃ fd, Binds K fd [x] [] ∧ FnG P w K mg base (L2.CX P w) k fa fd [x] sp)
    (hsp : ∀ H : Hp, SqL K H a (ns.map V.int) → sp [.ref a] H (fun v _ => v = .bl true) fun _ _ _ => False) :
    codeAny (model P w) callerA (.call (.ref fa) ⟨[.ref a], []⟩) (fun r s2 => r = .ok (.ret (.bool true)) ∧ OldK s.heap s2.heap ∧ s2.os = s.os ∧ AllBare s2.gens) s := by
  have rv := vals_ints hi
  have hlen := hi.length
  have core : ∀ H : Hp, (∀ b, H b = none ∨ (b = a ∧ K.lookup a = none ∧ H b = some (.frz { cls := .type "list", data := .seq vs.toArray } (.lst (ns.map V.int))))) → SqL K H a (ns.map V.int) → HOk P w H s.heap →
      codeAny (model P w) callerA (.call (.ref fa) ⟨[.ref a], []⟩) (fun r s2 => r = .ok (.ret (.bool true)) ∧ OldK s.heap s2.heap ∧ s2.os = s.os ∧ AllBare s2.gens) s := by
    intro H only sq ok
    have nod : ∀ (b : Addr) (o : Obj), s.heap.get? b = some o → (∀ (ys : Array Value) (m : Nat), o.data ≠ .seq ys m) → H b = none := by
      intro b o e d
      rcases only b with z | ⟨z, _, _⟩
      · exact z
      · subst z
        rw [at_] at e
        cases e
        exact absurd rfl (d _ _)
    have keepNs : ∀ {b : Addr} {m : Str → Option Value}, s.heap.Ns b m → (hidT s.heap H).Ns b m := by
      rintro b m ⟨o, es, ep, e, d, r⟩
      exact ⟨o, es, ep, hidT_get e (nod b o e fun ys m z => by rw [d] at z; cases z), d, r⟩
    have kin2 : K.In (hidT s.heap H) := by
      intro b o e
      refine hidT_get (kin b o e) ?_
      rcases only b with z | ⟨z, z2, _⟩
      · exact z
      · rw [z, z2] at e; cases e
    obtain ⟨mc, l1, l2⟩ := nl
    have md : Mod K mg (hidT s.heap H) := ⟨kin2, keepNs gl, ⟨mb, keepNs bl, bb⟩, ⟨mc, keepNs l1, l2⟩⟩
    have en : Env0 P w K mg (hidT s.heap H) callerA [] s H :=
      { frames := rfl, mod := md, bs := fun b o e => of_hidT e, bsz := Nat.le_of_eq (hidT_size _ _), funs := trivial, frf := (fun b z => absurd (show b ∈ ([] : List Addr) from z) (by simp)), hok := ok, bare := .of_eq ng }
    obtain ⟨fd, bt, fg⟩ := F _ kin2 (keepNs gl)
    have run := fg.go callerA [] s H ⟨[.ref a], []⟩ [.ref a] [.ref a] _ _ rfl hr en (bt s [.ref a] kin rfl) (.cons rfl .nil) (hsp H sq)
    refine codeAny_mono run ?_
    intro r s2 z
    match r, z with
    | .error e, z => exact (cx_none z).elim
    | .ok .next, z => exact z.elim
    | .ok .brk, z => exact z.elim
    | .ok .cont, z => exact z.elim
    | .ok (.ret u), ⟨v, H2, os, bare, un, ok2, rl, q⟩ =>
      have q : v = .bl true := q
      subst q
      have eu : u = Value.bool true := rl
      subst eu
      refine ⟨rfl, OldK.of_keep ?_, os, bare⟩
      intro b o e
      rcases only b with z | ⟨_, _, z⟩
      · exact un.keep b o e z (fun y => absurd (show b ∈ ([] : List Addr) from y) (by simp)) (by simp)
      · have g1 := (ok b _ z).1
        have g2 := (ok2 b _ (un.frzs b _ _ z)).1
        rw [e] at g1
        cases g1
        exact g2
  by_cases hk : K.lookup a = none
  · refine core (fun b => if b = a then some (.frz { cls := .type "list", data := .seq vs.toArray } (.lst (ns.map V.int))) else none) (fun b => ?_) (.inl (.inr ⟨_, if_pos rfl⟩)) ?_
    · by_cases hb : b = a
      · exact .inr ⟨hb, hk, if_pos hb⟩
      · exact .inl (if_neg hb)
    · intro b u z
      by_cases hb : b = a
      · have z := (if_pos hb).symm.trans z
        cases z
        rw [hb]
        exact ⟨at_, by simpa using hn, vs, _, rv, at_⟩
      · have z := (if_neg hb).symm.trans z
        cases z
  · obtain ⟨o, hk⟩ : ∃ o, K.lookup a = some o := by
      cases e : K.lookup a with
      | none => exact absurd e hk
      | some o => exact ⟨o, rfl⟩
    have e := kin a o hk
    rw [at_] at e
    cases e
    exact core (fun _ => none) (fun _ => .inl rfl) (.inr ⟨_, vs.toArray, _, hk, rfl, rfl, rfl, by simpa [hlen] using hn, by simpa using rv⟩) fun b u z => nomatch (show (none : Option HO) = some u from z)
theorem walk_hw {l : PySem.W.OpenLaw} {n k : Nat} {q : Program} {loose : List Str} {XP : (Str → Option Value) → Heap → Prop} {YP : World → Heap → Prop} {d : DefRec} {x : Str} {Fl : Fn}
    (hn : l.most = some n) (hn2 : n ≤ sizeLine) (hdf : d.params.defaults = []) (hr : Room k callerA) (law : ∀ ns : List Int, ns.length ≤ n → ∃ L, Fl [.scr ns] [] = .ok (.d (.bool true)) L)
    (F : ∀ (w : World) (mg : Str → Option Value) (fa : Addr) (h : Heap), YP w h → h.Ns mainGlobals mg → mg d.name = some (.ref fa) →
      ∃ (K : PySem.W.Frag), K.In h ∧ ∀ base : Heap, K.In base → base.Ns mainGlobals mg → ∃ fd, Binds K fd [x] [] ∧ FnG l.prog w K mg base (L2.CX l.prog w) k fa fd [x] (spOf K mg 1 Fl)) :
    PySem.W.WalkO q loose XP YP l.row.toRowW d [] (fun f vs => PySem.call f vs) := by
  refine Att.attach_call hn hdf fun w s₀ s₁ mg mb fa o pm cd doc a vs ns G Y ho hd hcd hmg hobj hints hlen hg => ?_
  obtain ⟨K, kin, hF⟩ := F w mg fa _ Y G.T.g hmg
  refine law_runs kin G.T.g G.T.b G.T.builtins G.T.nolimit hg hobj hints (Nat.le_trans hlen hn2) hr hF fun H sq => ?_
  obtain ⟨L, e⟩ := law ns hlen
  refine ⟨rfl, [.scr ns], [], [], [], ⟨rfl, .nil, (fun _ z => nomatch z), (fun _ z => Or.elim z (fun z => nomatch z) (fun z => nomatch z)), (fun n o z => by simp at z)⟩, .cons (.scr (SqL.le (fun b o z => ?_) sq)) .nil, ?_⟩
  · exact mask_of (by simp) z
  · rw [e]
    intro v H' al' s r
    cases r with
    | d r => cases r; rfl
end L2.HW
namespace L2.HW
open PySem PySem.Spec PyProof.Rows
structure Ctx (X : Cx) (Wx : WX) (k : Nat) : Prop where
  gd : X.A.guards = some []
  rm : Room k X.A
  tk : Takes X Wx
  cm : X.calm = true
  nd : X.N.Nodup
structure CtxF (X : Cx) (Wx : WX) (k : Nat) : Prop extends Ctx X Wx k where
  pa : PassesOwn (model X.prog X.w) X.A X.env X.xe
theorem takesFX {X : Cx} : Takes X FX := fun u s' ⟨_, _, _, _, _, _, _, _, _, _, _, _, _, _, _, _, z⟩ => z.elim
section
variable {X : Cx} {Wx : WX} {k : Nat}
theorem Ctx.fx (c : Ctx X Wx k) : Ctx X FX k := ⟨c.gd, c.rm, takesFX, c.cm, c.nd⟩
theorem Ctx.bk (c : Ctx X Wx k) (s : Shared) (H : Hp) (sc : Scope) (e : Env) (fp : List Addr) : Ctx (X.blk s H sc e fp) FX k := ⟨c.gd, c.rm, takesFX, c.cm, c.nd⟩
theorem Ctx.u0 (c : Ctx X Wx k) : X.A.units < cLine := by have := c.rm.un; omega
theorem Ctx.u1 (c : Ctx X Wx k) : X.A.units + 1 < cLine := by have := c.rm.un; omega
theorem Ctx.u64 (c : Ctx X Wx k) : X.A.units + 64 < cLine := by have := c.rm.un; omega
theorem Ctx.u65 (c : Ctx X Wx k) : X.A.units + 65 < cLine := by have := c.rm.un; omega
theorem Ctx.u200 (c : Ctx X Wx k) : X.A.units + 200 < cLine := by have := c.rm.un; omega
end
def Def (K : PySem.W.Frag) (mg : Str → Option Value) (x : Str) (st : Stmt) : Prop := ∃ f fd, mg x = some (.ref f) ∧ FunD K x x (defArgs st) (defBody st) (defScope st) [] [] f fd
def Has (P : Program) (w : World) (K : PySem.W.Frag) (mg : Str → Option Value) (base : Heap) (x : Str) (ps : List Str) (k : Nat) (F : Fn) : Prop :=
  ∃ f fd, mg x = some (.ref f) ∧ PySem.W.keepIn K (.ref f) = true ∧ Binds K fd ps [] ∧ NP ps.length F ∧ FnG P w K mg base (L2.CX P w) k f fd ps (spOf K mg ps.length F)
def BindE (x : Str) (st : Stmt) (ps : List Str) : Prop := ∀ (kV doc pm : Value) (an : Option Addr) (cdv ct : Value) (us : List Value), us.length = ps.length →
  bindArgs (PySem.W.fnOf x x (defArgs st) (defBody st) (defScope st) .none kV doc pm an cdv ct) ⟨us, []⟩ = pure (ps.zip us)
section
variable {P : Program} {w : World} {K : PySem.W.Frag} {mg : Str → Option Value} {base : Heap} {x : Str} {st : Stmt} {ps N : List Str} {k nl : Nat}
theorem has_of {bf : SFn} (D : Def K mg x st) (hb : BindE x st ps) (S : FnScope N ps (defScope st)) (hnl : N.length = nl) (hle : ps.length ≤ nl)
    (h : ∀ (f : Addr) (cdv : Value) (A : Around) (outer : List Env) (s : Shared) (H : Hp) (E : XK), CtxF (cxOf (L2.CX P w) P w K mg base N x (defScope st) f cdv A outer s H E) (WxE E) k →
      SB (cxOf (L2.CX P w) P w K mg base N x (defScope st) f cdv A outer s H E) (WxE E) (defBody st) bf) : Has P w K mg base x ps (k + 1) (mkFn ps.length nl bf) := by
  obtain ⟨f, fd, hm, F⟩ := D
  refine ⟨f, fd, hm, F.kp, fun s us _ hl => by rw [List.append_nil] at hl ⊢; exact FunD.bindsA F hb s us hl, np_mk, ?_⟩
  refine fn_body F S rfl hnl hle fun cdv A outer s H E hg hr => h f cdv A outer s H E ⟨⟨hg, hr, takes_of rfl rfl rfl rfl, rfl, S.nd⟩, passes_of rfl⟩
theorem law_end {F : Fn} {fa : Addr} {h : Heap} {y : Str} (H : ∀ base : Heap, Has P w K mg base x [y] k F) (hm : mg x = some (.ref fa)) (hK : K.In h) :
    ∃ (K : PySem.W.Frag), K.In h ∧ ∀ base : Heap, K.In base → base.Ns mainGlobals mg → ∃ fd, Binds K fd [y] [] ∧ FnG P w K mg base (L2.CX P w) k fa fd [y] (spOf K mg 1 F) := by
  refine ⟨K, hK, fun base _ _ => ?_⟩
  obtain ⟨f, fd, h1, _, h3, _, h5⟩ := H base
  rw [hm] at h1
  cases h1
  exact ⟨fd, h3, h5⟩
theorem Has.more {F : Fn} {j : Nat} (h : Has P w K mg base x ps k F) (hj : k ≤ j) : Has P w K mg base x ps j F := by
  obtain ⟨f, fd, h1, h2, h3, h4, h5⟩ := h
  exact ⟨f, fd, h1, h2, h3, h4, h5.more hj⟩
end
section
variable {X : Cx} {Wx : WX} {k j : Nat} {ps : List Str} {F : Fn} {x : Str} {p pos : Pos} {e : Expr} {es : List Expr} {fs : En → LH → Res (List Va)}
theorem w_call (c : Ctx X Wx k) (h : Has X.prog X.w X.K X.mg X.base x ps j F) (ha : SA X Wx (e :: es) fs) (hj : j ≤ k := by decide) (hg : Gl X x := by rfl) (hdb : (x == ("__debug__" : Str)) = false := by decide)
    (he : starEach (e :: es) X.env = (false, eval e X.env) :: starEach es X.env := by rfl) (hpl : (backTo pos (starEach es X.env)).any (·.1) = false := by rfl) : SE X Wx (.Call (.Name x p) (e :: es) [] pos) (eCall F fs) := by
  obtain ⟨f, fd, h1, h2, h3, h4, h5⟩ := h
  exact se_call h5 h4 c.tk c.gd (c.rm.mono hj) hg h1 h2 h3 ha hdb he hpl
theorem w_call0 (c : Ctx X Wx k) (h : Has X.prog X.w X.K X.mg X.base x ps j F) (hj : j ≤ k := by decide) (hg : Gl X x := by rfl) (hdb : (x == ("__debug__" : Str)) = false := by decide) : SE X Wx (.Call (.Name x p) [] [] pos) (eCall F aNil) := by
  obtain ⟨f, fd, h1, h2, h3, h4, h5⟩ := h
  exact se_call0 h5 h4 c.tk c.gd (c.rm.mono hj) hg h1 h2 h3 hdb
variable {a b : Expr} {fa fb : EF}
theorem w_v (i : Nat) (hN : X.N[i]? = some x := by rfl) (hv : Vis X.env.scope x := by first | exact Or.inl rfl | exact Or.inr (Or.inl rfl) | exact Or.inr (Or.inr rfl)) (hd : (x == ("__debug__" : Str)) = false := by decide) (hcd : (x == ("__classdict__" : Str)) = false := by decide) :
    SE X Wx (.Name x pos) (eVar i) := se_var hN hv hd hcd
theorem w_add (ha : SE X Wx a fa) (hb : SE X Wx b fb) : SE X Wx (.BinOp a .Add b pos) (eOp opAdd fa fb) := se_op or_add ok_add ha hb
theorem w_sub (ha : SE X Wx a fa) (hb : SE X Wx b fb) : SE X Wx (.BinOp a .Sub b pos) (eOp opSub fa fb) := se_op op_sub ok_sub ha hb
theorem w_mul (ha : SE X Wx a fa) (hb : SE X Wx b fb) : SE X Wx (.BinOp a .Mult b pos) (eOp opMul fa fb) := se_op or_mul ok_mul ha hb
theorem w_div (ha : SE X Wx a fa) (hb : SE X Wx b fb) : SE X Wx (.BinOp a .FloorDiv b pos) (eOp opDiv fa fb) := se_op op_fdivW ok_div ha hb
theorem w_mod (ha : SE X Wx a fa) (hb : SE X Wx b fb) : SE X Wx (.BinOp a .Mod b pos) (eOp opMod fa fb) := se_op op_mod ok_mod ha hb
theorem w_pow (ha : SE X Wx a fa) (hb : SE X Wx b fb) : SE X Wx (.BinOp a .Pow b pos) (eOp opPow fa fb) := se_op op_pow ok_pow ha hb
theorem w_gt (c : Ctx X Wx k) (ha : SE X Wx a fa) (hb : SE X Wx b fb) (hm : behindInMarks .Gt b = false := by rfl) : SE X Wx (.Compare a [.Gt] [b] pos) (eOp opGt fa fb) := se_cmp op_gt ok_gt ha hb hm
theorem w_ge (c : Ctx X Wx k) (ha : SE X Wx a fa) (hb : SE X Wx b fb) (hm : behindInMarks .GtE b = false := by rfl) : SE X Wx (.Compare a [.GtE] [b] pos) (eOp opGe fa fb) := se_cmp op_ge ok_ge ha hb hm
theorem w_lt (c : Ctx X Wx k) (ha : SE X Wx a fa) (hb : SE X Wx b fb) (hm : behindInMarks .Lt b = false := by rfl) : SE X Wx (.Compare a [.Lt] [b] pos) (eOp opLt fa fb) := se_cmp (or_lt c.u0) ok_lt ha hb hm
theorem w_ne (c : Ctx X Wx k) (ha : SE X Wx a fa) (hb : SE X Wx b fb) (hm : behindInMarks .NotEq b = false := by rfl) : SE X Wx (.Compare a [.NotEq] [b] pos) (eOp opNe fa fb) := se_cmp (or_ne c.u64) ok_ne ha hb hm
theorem t_gt (c : Ctx X Wx k) (ha : SE X Wx a fa) (hb : SE X Wx b fb) (hm : behindInMarks .Gt b = false := by rfl) : ST X Wx (.Compare a [.Gt] [b] pos) (tVal (eOp opGt fa fb)) := st_cmp op_gt ok_gt ha hb hm
theorem t_ge (c : Ctx X Wx k) (ha : SE X Wx a fa) (hb : SE X Wx b fb) (hm : behindInMarks .GtE b = false := by rfl) : ST X Wx (.Compare a [.GtE] [b] pos) (tVal (eOp opGe fa fb)) := st_cmp op_ge ok_ge ha hb hm
theorem t_lt (c : Ctx X Wx k) (ha : SE X Wx a fa) (hb : SE X Wx b fb) (hm : behindInMarks .Lt b = false := by rfl) : ST X Wx (.Compare a [.Lt] [b] pos) (tVal (eOp opLt fa fb)) := st_cmp (or_lt c.u0) ok_lt ha hb hm
theorem t_le (c : Ctx X Wx k) (ha : SE X Wx a fa) (hb : SE X Wx b fb) (hm : behindInMarks .LtE b = false := by rfl) : ST X Wx (.Compare a [.LtE] [b] pos) (tVal (eOp opLe fa fb)) := st_cmp op_le ok_le ha hb hm
theorem t_eq (c : Ctx X Wx k) (ha : SE X Wx a fa) (hb : SE X Wx b fb) (hm : behindInMarks .Eq b = false := by rfl) : ST X Wx (.Compare a [.Eq] [b] pos) (tVal (eOp opEq fa fb)) := st_cmp (or_eq c.u64) ok_eq ha hb hm
theorem t_ne (c : Ctx X Wx k) (ha : SE X Wx a fa) (hb : SE X Wx b fb) (hm : behindInMarks .NotEq b = false := by rfl) : ST X Wx (.Compare a [.NotEq] [b] pos) (tVal (eOp opNe fa fb)) := st_cmp (or_ne c.u64) ok_ne ha hb hm
theorem t_in (c : Ctx X Wx k) (ha : SE X Wx a fa) (hb : SE X Wx b fb) (hm : behindInMarks .In b = false := by rfl) : ST X Wx (.Compare a [.In] [b] pos) (tVal (eOp (opIn false) fa fb)) := st_cmp (op_in_any c.u65) ok_in ha hb hm
theorem t_notIn (c : Ctx X Wx k) (ha : SE X Wx a fa) (hb : SE X Wx b fb) (hm : behindInMarks .NotIn b = false := by rfl) : ST X Wx (.Compare a [.NotIn] [b] pos) (tVal (eOp (opIn true) fa fb)) := st_cmp (op_notIn_any c.u65) ok_in ha hb hm
theorem t_isN (c : Ctx X Wx k) (ha : SE X Wx a fa) (hb : SE X Wx b fb) (hm : behindInMarks .Is b = false := by rfl) : ST X Wx (.Compare a [.Is] [b] pos) (tVal (eOp opIsN fa fb)) := st_cmp op_isN ok_isN ha hb hm
theorem t_notN (c : Ctx X Wx k) (ha : SE X Wx a fa) (hb : SE X Wx b fb) (hm : behindInMarks .IsNot b = false := by rfl) : ST X Wx (.Compare a [.IsNot] [b] pos) (tVal (eOp opNotN fa fb)) := st_cmp op_notN ok_notN ha hb hm
theorem w_ix (c : Ctx X Wx k) (ha : SE X Wx a fa) (hb : SE X Wx b fb) (hs : PlainIx b := by exact fun _ _ => rfl) : SE X Wx (.Subscript a b pos) (eOp opIx fa fb) := se_ix c.u1 ha hb hs
theorem w_len (hm : X.mg "len" = none) (ha : SA X Wx [e] fs) (hg : Gl X "len" := by rfl) (he : starEach [e] X.env = (false, eval e X.env) :: starEach [] X.env := by rfl) (hpl : (backTo pos (starEach [] X.env)).any (·.1) = false := by rfl) :
    SE X Wx (.Call (.Name "len" p) [e] [] pos) (eCallB cLen fs) := se_callB cr_len ok_len hg hm rfl ha (by decide) (by decide) he hpl
theorem w_all (c : Ctx X Wx k) (hm : X.mg "all" = none) (ha : SA X Wx [e] fs) (hg : Gl X "all" := by rfl) (he : starEach [e] X.env = (false, eval e X.env) :: starEach [] X.env := by rfl) (hpl : (backTo pos (starEach [] X.env)).any (·.1) = false := by rfl) :
    SE X Wx (.Call (.Name "all" p) [e] [] pos) (eCallB cAll fs) := se_callB (cr_all c.cm) ok_all hg hm rfl ha (by decide) (by decide) he hpl
theorem w_sum (c : Ctx X Wx k) (hm : X.mg "sum" = none) (ha : SA X Wx [e] fs) (hg : Gl X "sum" := by rfl) (he : starEach [e] X.env = (false, eval e X.env) :: starEach [] X.env := by rfl) (hpl : (backTo pos (starEach [] X.env)).any (·.1) = false := by rfl) :
    SE X Wx (.Call (.Name "sum" p) [e] [] pos) (eCallB cSum fs) := se_callB (cr_sum c.cm) ok_sum hg hm rfl ha (by decide) (by decide) he hpl
theorem w_min2 (c : Ctx X Wx k) (hm : X.mg "min" = none) (ha : SA X Wx [e, a] fs) (hg : Gl X "min" := by rfl) (he : starEach [e, a] X.env = (false, eval e X.env) :: starEach [a] X.env := by rfl) (hpl : (backTo pos (starEach [a] X.env)).any (·.1) = false := by rfl) :
    SE X Wx (.Call (.Name "min" p) [e, a] [] pos) (eCallB cMin2 fs) := se_callB (call_min2 c.cm) ok_min2 hg hm rfl ha (by decide) (by decide) he hpl
theorem w_max2 (c : Ctx X Wx k) (hm : X.mg "max" = none) (ha : SA X Wx [e, a] fs) (hg : Gl X "max" := by rfl) (he : starEach [e, a] X.env = (false, eval e X.env) :: starEach [a] X.env := by rfl) (hpl : (backTo pos (starEach [a] X.env)).any (·.1) = false := by rfl) :
    SE X Wx (.Call (.Name "max" p) [e, a] [] pos) (eCallB cMax2 fs) := se_callB (call_max2 c.cm) ok_max2 hg hm rfl ha (by decide) (by decide) he hpl
theorem w_repr (c : Ctx X Wx k) (hm : X.mg "repr" = none) (ha : SA X Wx [e] fs) (hg : Gl X "repr" := by rfl) (he : starEach [e] X.env = (false, eval e X.env) :: starEach [] X.env := by rfl) (hpl : (backTo pos (starEach [] X.env)).any (·.1) = false := by rfl) :
    SE X Wx (.Call (.Name "repr" p) [e] [] pos) (eCallB cRepr fs) := se_callB (call_reprD c.gd c.u200) ok_repr hg hm rfl ha (by decide) (by decide) he hpl
theorem w_int (hm : X.mg "int" = none) (ha : SA X Wx [e] fs) (hg : Gl X "int" := by rfl) (he : starEach [e] X.env = (false, eval e X.env) :: starEach [] X.env := by rfl) (hpl : (backTo pos (starEach [] X.env)).any (·.1) = false := by rfl) :
    SE X Wx (.Call (.Name "int" p) [e] [] pos) (eCallB cInt fs) := se_callTy call_int1 ok_int hg hm rfl ha (by decide) (by decide) he hpl
theorem w_tuple (hm : X.mg "tuple" = none) (ha : SA X Wx [e] fs) (hg : Gl X "tuple" := by rfl) (he : starEach [e] X.env = (false, eval e X.env) :: starEach [] X.env := by rfl) (hpl : (backTo pos (starEach [] X.env)).any (·.1) = false := by rfl) :
    SE X Wx (.Call (.Name "tuple" p) [e] [] pos) (eCallB cTuple fs) := se_callTy call_tuple_of ok_tuple hg hm rfl ha (by decide) (by decide) he hpl
variable {f : EF} {i : Nat} {pos' : Pos} {st : Stmt} {sf : SFn}
theorem z_set (c : Ctx X Wx k) (i : Nat) (he : SE X Wx e f) (hi : X.N[i]? = some x := by rfl) (hx : Loc X.env.scope x := by first | exact Or.inl rfl | exact Or.inr rfl) (hs : swapsWith e (some (.Name x pos')) pos.line X.env = pure false := by rfl)
    (hf : X.fn x = true ∨ X.env.scope.names.lookup x = some .local := by first | exact .inl rfl | exact .inr rfl) : SS X Wx (.Assign [.Name x pos'] e pos) (sSet i f) := ss_set c.nd hi hx he hs hf
theorem g_name (c : Ctx X Wx k) (i : Nat) (hi : X.N[i]? = some x := by rfl) (hx : Loc X.env.scope x := by first | exact Or.inl rfl | exact Or.inr rfl) (hf : X.fn x = true ∨ X.env.scope.names.lookup x = some .local := by first | exact .inl rfl | exact .inr rfl) :
    SG X [i] (.Name x pos) (tN i) := sg_name c.nd hi hx hf
theorem z_for {tg iter : Expr} {body : List Stmt} {s : Srcf} {sl : List Nat} {g : Va → En → LH → Res En} {fb : SFn} (c : CtxF X Wx k) (hi : SI X Wx tg iter s) (hg : SG X sl tg g) (hb : SB X Wx body fb)
    (hs : ∀ x, foldedSetIterable iter X.env x = pure x := by intro _; rfl) : SS X Wx (.For tg iter body [] pos) (sFor s g fb) := ss_for c.pa c.cm hi hg hb hs
theorem z_while {body : List Stmt} {t : En → LH → Res Bool} {fb : SFn} (c : CtxF X Wx k) (ht : ST X Wx e t) (hb : SB X Wx body fb) : SS X Wx (.While e body [] pos) (sWhile t fb) := ss_while c.pa ht hb
end
end L2.HW
namespace L2.HW
open PySem PySem.Spec PyProof.Rows
abbrev FnF := List Va → LH → Res Ob
def settleOb (L : LH) (n0 k : Nat) : Ob → Option Ob
  | .lst ws => (mapO (settle L n0 k) ws).map .lst
  | .di kvs => (mapO (fun p : Int × Va => (settle L n0 k p.2).map fun x => (p.1, x)) kvs).map .di
  | .dt kvs => (mapO (fun p : List Int × Va => (settle L n0 k p.2).map fun x => (p.1, x)) kvs).map .dt
  | .ins _ _ => none
@[simp] theorem settleOb_d (L : LH) (n0 k : Nat) (xs : List PyData) : settleOb L n0 k (.lst (xs.map Va.d)) = some (.lst (xs.map Va.d)) := by simp [settleOb, mapO_settle_d]
section
variable {K : PySem.W.Frag} {mg : Str → Option Value} {H H' : Hp} {al al' T T' be : List Addr} {L L' : LH}
theorem settle_in {M' : Hp} {L0 : LH} (r0 : al.length = L0.length) (r : Rel K mg H' (al ++ be) T L') (m : Le (mask H' ((al ++ be) ++ T)) M')
    (hM : ∀ (n : Nat) (b : Addr) (o : Ob), L0.length ≤ n → (al ++ be)[n]? = some b → L'[n]? = some (some o) → ∀ u, H' b = some u → M' b = some u) : ∀ (k : Nat),
    (∀ (v : V) (w u : Va), Rp K mg (mask H' ((al ++ be) ++ T)) (al ++ be) v w → settle L' L0.length k w = some u → Rp K mg M' al v u) ∧
    (∀ (a : Addr) (o : Ob) (u : Va), (∀ z, H' a = some z → M' a = some z) → ObR K mg (mask H' ((al ++ be) ++ T)) (al ++ be) H' a o → settleO L' L0.length k o = some u → Rp K mg M' al (.ref a) u) := by
  have obj : ∀ k, (∀ (v : V) (w u : Va), Rp K mg (mask H' ((al ++ be) ++ T)) (al ++ be) v w → settle L' L0.length k w = some u → Rp K mg M' al v u) →
      (∀ (a : Addr) (o : Ob) (u : Va), (∀ z, H' a = some z → M' a = some z) → ObR K mg (mask H' ((al ++ be) ++ T)) (al ++ be) H' a o → settleO L' L0.length k o = some u → Rp K mg M' al (.ref a) u) := by
    intro k ih a o u see q e
    cases o with
    | lst ws =>
      obtain ⟨vs, h1, h2⟩ := q
      simp only [settleO] at e
      split at e
      · rename_i us e1
        cases e5 : datas us with
        | none => rw [e5] at e; cases e
        | some xs =>
          rw [e5] at e
          cases e
          have h3 := mapO_rps ih h2 e1
          rw [datas_eq e5] at h3
          exact .d (.lst (see _ h1) (dq_all h3))
      · cases e
    | di kvs =>
      obtain ⟨ks, h1, h2⟩ := q
      simp only [settleO] at e
      split at e
      · rename_i us e1
        cases e
        refine .dct (see _ h1) ?_
        have go : ∀ {ks : List (Key × V)} {kvs : List (Int × Va)} {us : List (Int × PyData)}, KRp K mg (mask H' ((al ++ be) ++ T)) (al ++ be) ks kvs → mapO (fun p : Int × Va => match settle L' L0.length k p.2 with
            | some (.d x) => some (p.1, x)
            | _ => none) kvs = some us → KDp M' ks us := by
          intro ks kvs us h
          induction h generalizing us with
          | nil => intro e; cases e; exact .nil
          | @cons p q ps qs h1 _ ih2 =>
            intro e
            unfold mapO at e
            split at e
            · rename_i b e2
              split at e
              · rename_i bs e3
                cases e
                split at e2
                · rename_i x e4
                  cases e2
                  exact .cons ⟨h1.1, rp_d (ih _ _ _ h1.2 e4)⟩ (ih2 e3)
                · cases e2
              · cases e
            · cases e
        exact go h2 e1
      · cases e
    | dt _ => cases e
    | ins _ _ => cases e
  intro k
  induction k with
  | zero =>
    have h0 : ∀ (v : V) (w u : Va), Rp K mg (mask H' ((al ++ be) ++ T)) (al ++ be) v w → settle L' L0.length 0 w = some u → Rp K mg M' al v u := by
      intro v w u q e
      cases q with
      | d q => cases e; exact .d (Dq.le m q)
      | loc _ => cases e
      | tup _ _ => cases e
      | dct _ _ => cases e
      | exc _ _ => cases e
      | scr _ => cases e
    exact ⟨h0, obj 0 h0⟩
  | succ k ih =>
    have h0 : ∀ (v : V) (w u : Va), Rp K mg (mask H' ((al ++ be) ++ T)) (al ++ be) v w → settle L' L0.length (k + 1) w = some u → Rp K mg M' al v u := by
      intro v w u q e
      cases q with
      | d q => cases e; exact .d (Dq.le m q)
      | @loc n a e1 =>
        rw [settle_loc] at e
        split at e
        · cases e
          exact .loc (by rw [List.getElem?_append_left (by omega)] at e1; exact e1)
        · split at e
          · rename_i o e2
            obtain ⟨b, e3, q3⟩ := r.cell n o e2
            rw [e1] at e3; cases e3
            exact ih.2 a o u (hM n a o (by omega) e1 e2) q3 e
          · cases e
      | tup e1 e2 =>
        simp only [settle] at e
        split at e
        · rename_i us e3
          cases e
          exact rp_mkTup (m _ _ e1) (mapO_rps ih.1 e2 e3)
        · cases e
      | dct e1 e2 => cases e; exact .dct (m _ _ e1) (KDp.le m e2)
      | exc e1 e2 => cases e; exact .exc (m _ _ e1) (ExR.le m e2)
      | scr e1 => cases e; exact .scr (SqL.le m e1)
    exact ⟨h0, obj (k + 1) h0⟩
theorem mapO_krp {κ κ' : Type} {G : κ → κ' → Prop} {M M' : Hp} {al al' : List Addr} {f : Va → Option Va} (hf : ∀ v w u, Rp K mg M al v w → f w = some u → Rp K mg M' al' v u) :
    ∀ {ks : List (κ × V)} {kvs us : List (κ' × Va)}, Paired (fun (p : κ × V) (q : κ' × Va) => G p.1 q.1 ∧ Rp K mg M al p.2 q.2) ks kvs → mapO (fun p : κ' × Va => (f p.2).map fun x => (p.1, x)) kvs = some us → Paired (fun (p : κ × V) (q : κ' × Va) => G p.1 q.1 ∧ Rp K mg M' al' p.2 q.2) ks us := by
  intro ks kvs us h
  induction h generalizing us with
  | nil => intro e; cases e; exact .nil
  | @cons p q ps qs h1 _ ih =>
    intro e
    unfold mapO at e
    split at e
    · rename_i b e2
      split at e
      · rename_i bs e3
        cases e
        cases e4 : f q.2 with
        | none => rw [e4] at e2; cases e2
        | some x =>
          rw [e4] at e2
          cases e2
          exact .cons ⟨h1.1, hf _ _ _ h1.2 e4⟩ (ih e3)
      · cases e
    · cases e
theorem settleOb_in {M M' : Hp} {al al' : List Addr} {L' : LH} {n0 k : Nat} (ih : ∀ (v : V) (w u : Va), Rp K mg M al v w → settle L' n0 k w = some u → Rp K mg M' al' v u) {a : Addr} : ∀ {o u : Ob}, ObR K mg M al H' a o → settleOb L' n0 k o = some u → ObR K mg M' al' H' a u
  | .lst ws, u, ⟨vs, h1, h2⟩, e => by
    simp only [settleOb] at e
    cases e1 : mapO (settle L' n0 k) ws with
    | none => rw [e1] at e; cases e
    | some us => rw [e1] at e; cases e; exact ⟨vs, h1, mapO_rps ih h2 e1⟩
  | .di kvs, u, ⟨ks, h1, h2⟩, e => by
    simp only [settleOb] at e
    cases e1 : mapO (fun p : Int × Va => (settle L' n0 k p.2).map fun x => (p.1, x)) kvs with
    | none => rw [e1] at e; cases e
    | some us => rw [e1] at e; cases e; exact ⟨ks, h1, mapO_krp (G := fun p q => p = Sum.inl q) ih h2 e1⟩
  | .dt kvs, u, ⟨ks, h1, h2⟩, e => by
    simp only [settleOb] at e
    cases e1 : mapO (fun p : List Int × Va => (settle L' n0 k p.2).map fun x => (p.1, x)) kvs with
    | none => rw [e1] at e; cases e
    | some us => rw [e1] at e; cases e; exact ⟨ks, h1, mapO_krp (G := fun (p : List Key) (q : List Int) => p = q.map Sum.inl) ih h2 e1⟩
theorem Stp.holdT {a : Addr} (s : Stp K mg H al T L H' al T L') (ha : H a = none) (ha' : H' a ≠ none) (na : a ∉ al) (low : ∀ (n : Nat) (o : Ob), L'[n]? = some (some o) → ∀ b, al[n]? = some b → ObR K mg (mask H' (al ++ (a :: T))) al H' b o) : Stp K mg H al T L H' al (a :: T) L' := by
  have r := s.rel
  refine ⟨⟨r.len, r.nd, fun b hb z => ?_, fun b h => ?_, fun n o e => ?_⟩, ⟨[], by simp, fun _ z => nomatch z⟩, ⟨[a], rfl, fun b hb => ?_⟩, s.frame, s.stay, s.lck, s.alv⟩
  · rcases List.mem_cons.mp z with z | z
    · exact na (z ▸ hb)
    · exact r.dis b hb z
  · rcases h with h | h
    · exact r.trk b (.inl h)
    · rcases List.mem_cons.mp h with z | z
      · rw [z]; exact ha'
      · exact r.trk b (.inr z)
  · obtain ⟨b, e1, _⟩ := r.cell n o e
    exact ⟨b, e1, low n o e b e1⟩
  · have : b = a := by simpa using hb
    rw [this]; exact ha
end
open Classical in
noncomputable def mkFnF (np nl : Nat) (body : SFn) : FnF := fun ws L => if ws.length = np then match body (ws.map some ++ List.replicate (nl - ws.length) none) L with
    | .rt (.loc n) L' => if L.length ≤ n then match L'[n]? with
        | some (some o) => match settleOb (L'.set n none) L.length 9 o with
          | some u => if Kept L L' then .ok u (L'.take L.length) else .stuck
          | none => .stuck
        | _ => .stuck
      else .stuck
    | .rf o L' => match settleOb L' L.length 9 o with
      | some u => if Kept L L' then .ok u (L'.take L.length) else .stuck
      | none => .stuck
    | .exc c f _ L' => if Kept L L' then .exc c f (L'.take L.length) else .stuck
    | _ => .stuck
  else .stuck
def NPF (np : Nat) (F : FnF) : Prop := ∀ ws L, ws.length ≠ np → F ws L = .stuck
theorem npf_mk {np nl : Nat} {body : SFn} : NPF np (mkFnF np nl body) := fun ws L h => by unfold mkFnF; rw [if_neg h]
def NPostF (K : PySem.W.Frag) (mg : Str → Option Value) (H : Hp) (al T : List Addr) (L : LH) (r : Res Ob) (Q : VK) (E : XK) : Prop := match r with
  | .ok o L' => ∀ a H' al', H a = none → Stp K mg H al T L H' al' (a :: T) L' → ObR K mg (mask H' (al' ++ (a :: T))) al' H' a o → Q (.ref a) H'
  | .exc c f L' => ∀ cls d H' al', Stp K mg H al T L H' al' T L' → ExR mg (mask H' (al' ++ T)) c f cls d → E cls d H'
  | .stuck => False
def spOfF (K : PySem.W.Frag) (mg : Str → Option Value) (np : Nat) (F : FnF) : Sp := fun vs H Q E => vs.length = np ∧ ∃ ws al T L, Rel K mg H al T L ∧ Rps K mg (mask H (al ++ T)) al vs ws ∧ NPostF K mg H al T L (F ws L) Q E
section
variable {P : Program} {w : World} {K : PySem.W.Frag} {mg : Str → Option Value} {base : Heap} {x qual : Str} {params : Arguments} {body : List Stmt} {scope : Scope} {dvs : List V} {kws : List (Str × V)} {f : Addr} {fd : FuncData}
theorem body_endF {H : Hp} {al T : List Addr} {L : LH} {X : Cx} {Q : VK} {E : XK} {np nl : Nat} {bf : SFn} {ws : List Va} (r0 : Rel X.K X.mg H al T L) (hl : ws.length = np)
    (h : NPostF X.K X.mg H al T L (mkFnF np nl bf ws L) Q E) : SPost X (WxE E) H al T L (bf (ws.map some ++ List.replicate (nl - ws.length) none) L) { nx := fun _ H' => Q .non H', rt := Q } := by
  unfold mkFnF at h
  rw [if_pos hl] at h
  revert h
  generalize bf (ws.map some ++ List.replicate (nl - ws.length) none) L = r
  intro h
  cases r with
  | nx _ _ => exact h.elim
  | bk _ _ => exact h.elim
  | ct _ _ => exact h.elim
  | stuck => exact h.elim
  | exc c f env' L' =>
    intro cls d σ' H' al' s _ q
    simp only at h
    split at h
    · rename_i hk
      obtain ⟨be, e, _⟩ := s.ext
      subst e
      exact h cls d H' al (exitS r0 s hk) (ExR.le (mask_more H' al be T) q)
    · exact h.elim
  | rf o L' =>
    intro a H' al' ha s q
    simp only at h
    split at h
    · rename_i u eu
      split at h
      · rename_i hk
        obtain ⟨be, e, _⟩ := s.ext
        subst e
        have n := r0.fresh ha
        -- the protected address stays so
        have sT : Stp X.K X.mg H al T L H' al (a :: T) (L'.take L.length) := by
          have rr := s.rel
          have fresh : ∀ b ∈ [a], H b = none := by
            intro b hb
            have : b = a := by simpa using hb
            rw [this]
            exact ha
          have base : Stp X.K X.mg H al T L H' al T (L'.take L.length) := exitS r0 (Stp.drop (te := [a]) fresh s) hk
          refine Stp.holdT base ha (rr.trk a (.inr List.mem_cons_self)) n.1 fun i ob ei b eb => ?_
          have hi : i < L.length := by
            have := (List.getElem?_eq_some_iff.mp ei).1
            rw [List.length_take] at this; omega
          rw [List.getElem?_take_of_lt hi] at ei
          obtain ⟨b', e2, q2⟩ := rr.cell i ob ei
          rw [List.getElem?_append_left (by rw [r0.len]; exact hi), eb] at e2
          cases e2
          obtain ⟨b3, e3, q3⟩ := base.rel.cell i ob (by rw [List.getElem?_take_of_lt hi]; exact ei)
          rw [eb] at e3; cases e3
          exact low_ob (be := be) (mask_more H' al be (a :: T)) q2 (ob_low q3)
        refine h a H' al ha sT (settleOb_in ?_ q eu)
        refine (settle_in r0.len s.rel (mask_more H' al be (a :: T)) ?_ 9).1
        intro n b o hn eb _ u hu
        refine mask_of (fun z => ?_) hu
        have hb : b ∈ be := by
          rw [List.getElem?_append_right (by have := r0.len; omega)] at eb
          exact List.mem_of_getElem? eb
        rcases List.mem_append.mp z with z | z
        · exact (List.nodup_append.mp s.rel.nd).2.2 b z b hb rfl
        · exact s.rel.dis b (List.mem_append_right _ hb) z
      · exact h.elim
    · exact h.elim
  | rt v L' =>
    match v with
    | .d _ => exact h.elim
    | .tup _ => exact h.elim
    | .dct _ => exact h.elim
    | .exc _ _ => exact h.elim
    | .scr _ => exact h.elim
    | .loc n =>
      intro v H' al' s q
      simp only at h
      split at h
      · rename_i hn
        split at h
        · rename_i o eo
          split at h
          · rename_i u eu
            split at h
            · rename_i hk
              obtain ⟨be, e, fr⟩ := s.ext
              subst e
              have rr := s.rel
              cases q with
              | @loc _ a ea =>
                obtain ⟨a', ea', qa⟩ := rr.cell n o eo
                rw [ea] at ea'; cases ea'
                have hb : a ∈ be := by
                  rw [List.getElem?_append_right (by have := r0.len; omega)] at ea
                  exact List.mem_of_getElem? ea
                have ha : H a = none := fr a hb
                have na := r0.fresh ha
                have base := exitS r0 s hk
                have mm : Le (mask H' ((al ++ be) ++ T)) (mask H' (al ++ (a :: T))) := fun b o e => by
                  obtain ⟨z, e⟩ := of_mask e
                  refine mask_of (fun y => z ?_) e
                  simp only [List.mem_append, List.mem_cons] at y ⊢
                  rcases y with y | y | y
                  · exact .inl (.inl y)
                  · exact .inl (.inr (y ▸ hb))
                  · exact .inr y
                have sT : Stp X.K X.mg H al T L H' al (a :: T) (L'.take L.length) := by
                  refine Stp.holdT base ha (rr.trk a (.inl (List.mem_append_right _ hb))) na.1 fun i ob ei b eb => ?_
                  have hi : i < L.length := by
                    have := (List.getElem?_eq_some_iff.mp ei).1
                    rw [List.length_take] at this; omega
                  obtain ⟨b3, e3, q3⟩ := base.rel.cell i ob ei
                  rw [List.getElem?_take_of_lt hi] at ei
                  obtain ⟨b', e2, q2⟩ := rr.cell i ob ei
                  rw [List.getElem?_append_left (by rw [r0.len]; exact hi), eb] at e2
                  cases e2
                  rw [eb] at e3; cases e3
                  exact low_ob (be := be) mm q2 (ob_low q3)
                refine h a H' al ha sT (settleOb_in ?_ qa eu)
                refine (settle_in r0.len (rr.lock (some n)) mm ?_ 9).1
                intro m b o2 hm eb eo2 u2 hu
                have hbb : b ∈ be := by
                  rw [List.getElem?_append_right (by have := r0.len; omega)] at eb
                  exact List.mem_of_getElem? eb
                have nb : b ≠ a := by
                  rintro rfl
                  obtain ⟨h1, h2⟩ := List.getElem?_eq_some_iff.mp ea
                  obtain ⟨h3, h4⟩ := List.getElem?_eq_some_iff.mp eb
                  have : m = n := (List.getElem_inj rr.nd).mp (h4.trans h2.symm)
                  subst this
                  have eo2 : (L'.set m none)[m]? = some (some o2) := eo2
                  rw [List.getElem?_set_self (List.getElem?_eq_some_iff.mp eo).1] at eo2
                  cases eo2
                refine mask_of (fun z => ?_) hu
                simp only [List.mem_append, List.mem_cons] at z
                rcases z with z | z | z
                · exact (List.nodup_append.mp rr.nd).2.2 b z b hbb rfl
                · exact nb z
                · exact rr.dis b (List.mem_append_right _ hbb) z
            · exact h.elim
          · exact h.elim
        · exact h.elim
      · exact h.elim
theorem fn_bodyF (F : FunD K x qual params body scope dvs kws f fd) {N ps : List Str} {k np nl : Nat} {bf : SFn} (S : FnScope N ps scope) (hnp : ps.length = np) (hnl : N.length = nl) (hle : np ≤ nl)
    (hb : ∀ (cdv : Value) (A : Around) (outer : List Env) (s : Shared) (H : Hp) (E : XK), A.guards = some [] → Room k (A.deeper (envOfC qual scope s.heap.objs.size f cdv)) → SB (cxOf (L2.CX P w) P w K mg base N qual scope f cdv A outer s H E) (WxE E) body bf) :
    FnG P w K mg base (L2.CX P w) (k + 1) f fd ps (spOfF K mg np (mkFnF np nl bf)) := by
  refine fnG_of F S (fun vs H Q E h => by rw [h.1, hnp]) (fun cdv A outer s H vs Q E hg hr h => ⟨_, hb cdv A outer s H E hg hr, ?_⟩)
  obtain ⟨hl, ws, al, T, L, r, rs, h⟩ := h
  have e := Paired.length rs
  subst hnl
  refine ⟨_, L, al, T, conf_start r rs (by omega), ?_⟩
  exact body_endF (X := cxOf (L2.CX P w) P w K mg base N qual scope f cdv A outer s H E) r (by omega) h
end
def HasF (P : Program) (w : World) (K : PySem.W.Frag) (mg : Str → Option Value) (base : Heap) (x : Str) (ps : List Str) (k : Nat) (F : FnF) : Prop :=
  ∃ f fd, mg x = some (.ref f) ∧ PySem.W.keepIn K (.ref f) = true ∧ Binds K fd ps [] ∧ NPF ps.length F ∧ FnG P w K mg base (L2.CX P w) k f fd ps (spOfF K mg ps.length F)
theorem hasF_of {P : Program} {w : World} {K : PySem.W.Frag} {mg : Str → Option Value} {base : Heap} {x : Str} {st : Stmt} {ps N : List Str} {k nl : Nat} {bf : SFn} (D : Def K mg x st) (hb : BindE x st ps) (S : FnScope N ps (defScope st)) (hnl : N.length = nl) (hle : ps.length ≤ nl)
    (h : ∀ (f : Addr) (cdv : Value) (A : Around) (outer : List Env) (s : Shared) (H : Hp) (E : XK), CtxF (cxOf (L2.CX P w) P w K mg base N x (defScope st) f cdv A outer s H E) (WxE E) k →
      SB (cxOf (L2.CX P w) P w K mg base N x (defScope st) f cdv A outer s H E) (WxE E) (defBody st) bf) : HasF P w K mg base x ps (k + 1) (mkFnF ps.length nl bf) := by
  obtain ⟨f, fd, hm, F⟩ := D
  refine ⟨f, fd, hm, F.kp, fun s us _ hl => by rw [List.append_nil] at hl ⊢; exact FunD.bindsA F hb s us hl, npf_mk, ?_⟩
  refine fn_bodyF F S rfl hnl hle fun cdv A outer s H E hg hr => h f cdv A outer s H E ⟨⟨hg, hr, takes_of rfl rfl rfl rfl, rfl, S.nd⟩, passes_of rfl⟩
section
variable {X : Cx} {Wx : WX} {k j : Nat} {ps : List Str} {F : FnF} {x : Str} {p pos : Pos} {e : Expr} {es : List Expr} {fs : En → LH → Res (List Va)}
def fCall (F : FnF) (fs : En → LH → Res (List Va)) : En → LH → Res Ob := fun env L => (fs env L).bind F
theorem w_callF (c : Ctx X Wx k) (h : HasF X.prog X.w X.K X.mg X.base x ps j F) (ha : SA X Wx (e :: es) fs) (hj : j ≤ k := by decide) (hg : Gl X x := by rfl) (hdb : (x == ("__debug__" : Str)) = false := by decide)
    (he : starEach (e :: es) X.env = (false, eval e X.env) :: starEach es X.env := by rfl) (hpl : (backTo pos (starEach es X.env)).any (·.1) = false := by rfl) : SF X Wx (.Call (.Name x p) (e :: es) [] pos) (fCall F fs) := by
  obtain ⟨f, fd, h1, h2, h3, h4, h5⟩ := h
  refine PE.imp (pe_callG (E := WE Wx) h5 c.gd (c.rm.mono hj) hg h1 h2 h3 (fun σ => passAt c.tk σ) ha hdb he hpl) ?_
  rintro σ H Q ⟨env, L, al, T, cf, q⟩
  refine fseq (R := RVs X) cf q fun vs H1 ws L1 al1 c1 s1 r1 q1 => ?_
  have hl : ws.length = ps.length := by
    by_cases z : ws.length = ps.length
    · exact z
    · rw [h4 ws L1 z] at q1; exact q1.elim
  refine ⟨by rw [Paired.length r1, hl], ws, al1, T, L1, c1.rel, r1, ?_⟩
  revert q1
  generalize F ws L1 = r
  intro q1
  cases r with
  | ok o L2 => exact fun a H' al' ha s q => q1 a H' al' ha s q
  | exc c f L2 => exact fun cls d H' al' s q => q1 cls d H' al' s q
  | stuck => exact q1
end
end L2.HW
namespace L2.HW
open PySem PySem.Spec PyProof.Rows
section
variable {X : Cx} {Wx : WX}
def fD0 : En → LH → Res Ob := fun _ L => .ok (.di []) L
theorem sf_d0 {pos : Pos} : SF X Wx (.Dict [] [] pos) fD0 := PE.imp pe_dnewK fun σ H Q ⟨env, L, al, T, c, q⟩ => fnew c.rel q fun p hp e m => ⟨[], e, .nil⟩
def dcompL (g : Va → En → LH → Res En) (t : En → LH → Res Bool) (fk fv : EF) : List Va → List (Int × Va) → En → LH → Res (List (Int × Va))
  | [], acc, _, L => .ok acc L
  | w :: ws, acc, env, L => match g w env L with
    | .ok env1 L1 => match t env1 L1 with
      | .ok b L2 => if b then match fk env1 L2 with
          | .ok (.d (.int k)) L3 => match fv env1 L3 with
            | .ok u L4 => if acc.length < sizeLine then dcompL g t fk fv ws (aput acc k u) env L4 else .stuck
            | _ => .stuck
          | _ => .stuck
        else dcompL g t fk fv ws acc env L2
      | _ => .stuck
    | _ => .stuck
def fDComp (s : Srcf) (g : Va → En → LH → Res En) (t : En → LH → Res Bool) (fk fv : EF) (vs : List Nat) : En → LH → Res Ob := fun env L => (s env L).bind fun p L1 => match dcompL g t fk fv p.1 [] (wipeE env vs) (lockL p.2 L1) with
  | .ok kvs L2 => .ok (.di kvs) (openL p.2 L1 L2)
  | _ => .stuck
theorem dc_at {wi : TI} {s : Srcf} {sl vs : List Nat} {g : Va → En → LH → Res En} {t : En → LH → Res Bool} {fk fv : EF} {σ : St} {H : Hp} {Q : VK} {gR : TG} {tR : TT} {kR vR : TE} {env : En} {L : LH} {al T : List Addr} (hv : ∀ j ∈ sl, j ∈ vs) (c : Conf X.K X.mg σ H env L al T)
    (hw : ∀ R, IPost X Wx σ H al T L (s env L) R → wi σ H R)
    (hgR : ∀ v σ H Q, (∃ w env L al T, Conf X.K X.mg σ H env L al T ∧ RV X (mask H (al ++ T)) al v w ∧ TPost X sl σ H al T L (g w env L) Q) → gR v σ H Q)
    (htR : ∀ σ H Q, Rdg X FX RB t σ H Q → tR σ H Q) (hkR : ∀ σ H Q, Rdg X FX (RV X) fk σ H Q → kR σ H Q) (hvR : ∀ σ H Q, Rdg X FX (RV X) fv σ H Q → vR σ H Q)
    (h : FPost X Wx σ H al T L (fDComp s g t fk fv vs env L) Q) : tDc wi gR tR kR vR vs σ H Q := by
  refine hw _ ?_
  unfold fDComp at h
  revert h
  generalize s env L = r
  intro h
  cases r with
  | stuck => exact h
  | exc c' f L1 => exact h
  | ok p L1 =>
    obtain ⟨ws, lk⟩ := p
    intro J H1 al1 s1 wk D hD
    have c1 := c.stp s1
    simp only [Res.bind_ok] at h
    have hl : al1.length = (lockL lk L1).length := (c1.rel.lock lk).len
    have c1l := c1.lock lk
    have s0 : Stp X.K X.mg H1 al1 T (lockL lk L1) (upd H1 D (.dK [])) al1 (D :: T) (lockL lk L1) := c1l.rel.allocT hD
    let W : Nat → Nat → Hp → Prop := fun i m H2 => m = ws.length - i ∧ i ≤ ws.length ∧ ∃ al2 L2 av aw, Stp X.K X.mg H1 al1 T (lockL lk L1) H2 al2 (D :: T) L2 ∧ H2 D = some (.dK av) ∧ KRp X.K X.mg (mask H2 (al2 ++ (D :: T))) al2 av aw ∧
      FPost X Wx σ H1 al1 T L1 (match dcompL g t fk fv (ws.drop i) aw (wipeE env vs) L2 with
        | .ok us L3 => .ok (.di us) (openL lk L1 L3)
        | _ => .stuck) Q
    have back : ∀ x, H1 x = none → H x = none := fun x z => s1.back z
    have h1 : FPost X Wx σ H1 al1 T L1 (match dcompL g t fk fv ws [] (wipeE env vs) (lockL lk L1) with
        | .ok us L3 => .ok (.di us) (openL lk L1 L3)
        | _ => .stuck) Q := by
      revert h
      generalize dcompL g t fk fv ws [] (wipeE env vs) (lockL lk L1) = r2
      intro h
      cases r2 with
      | ok us L3 => exact fun a H' al' ha t q => h a H' al' (back a ha) (Stp.trans c.rel.len s1 t) q
      | exc _ _ _ => exact h.elim
      | stuck => exact h.elim
    refine ⟨W, ⟨ws.length, by simp, Nat.zero_le _, al1, lockL lk L1, [], [], s0, upd_same, .nil, by simpa using h1⟩, ?_⟩
    rintro i m H2 ⟨rfl, hi, al2, L2, av, aw, s2, hav, raw, h2⟩
    obtain ⟨stop, item⟩ := wk H2 al2 (D :: T) L2 s2
    by_cases hlt : i < ws.length
    · have ew : ws[i]? = some ws[i] := List.getElem?_eq_getElem hlt
      obtain ⟨go, yl⟩ := item i _ ew
      refine .inr ⟨go, W (i + 1) (ws.length - (i + 1)), fun H' n => ⟨ws.length - (i + 1), by omega, n⟩, fun x H3 y => ?_⟩
      obtain ⟨s3, rx⟩ := yl x H3 y
      have s13 := Stp.trans hl s2 s3
      have c3 : Conf X.K X.mg (wipe σ vs) H3 (wipeE env vs) L2 al2 (D :: T) := (c1l.wiped vs).stp s13
      refine hgR _ _ _ _ ⟨ws[i], wipeE env vs, L2, al2, D :: T, c3, rx, ?_⟩
      rw [List.drop_eq_getElem_cons hlt] at h2
      unfold dcompL at h2
      revert h2
      generalize g ws[i] (wipeE env vs) L2 = r1
      intro h2
      cases r1 with
      | stuck => exact h2
      | exc _ _ _ => exact h2
      | ok env4 L4 =>
        intro σ4 H4 al4 s4 c4 ag
        have s14 := Stp.trans hl s13 s4
        refine ⟨wipe_agr ag hv, htR _ _ _ ⟨env4, L4, al4, D :: T, c4, ?_⟩⟩
        simp only at h2
        revert h2
        generalize t env4 L4 = r2
        intro h2
        cases r2 with
        | stuck => exact h2
        | exc _ _ _ => exact h2.elim
        | ok b L5 =>
          intro b' H5 al5 s5 e5
          obtain rfl : b' = b := e5
          have s15 := Stp.trans hl s14 s5
          have h5 : H5 D = some (.dK av) := s5.frame D _ (s4.frame D _ (s3.frame D _ hav (fun z => s2.rel.dis D z.mem List.mem_cons_self)) (fun z => s3.rel.dis D z.mem List.mem_cons_self)) (fun z => s4.rel.dis D z.mem List.mem_cons_self)
          have up : ∀ {H6 al6 L6}, Stp X.K X.mg H5 al5 (D :: T) L5 H6 al6 (D :: T) L6 → KRp X.K X.mg (mask H6 (al6 ++ (D :: T))) al6 av aw := fun {H6 al6 L6} s6 => by
            have l1 := Le.trans (Le.trans (Le.trans s3.le s4.le) s5.le) s6.le
            have a1 : ALe al2 al6 := fun k a e => s6.ale _ _ (s5.ale _ _ (s4.ale _ _ (s3.ale _ _ e)))
            exact Paired.map2 (fun _ _ q => ⟨q.1, Rp.le l1 a1 q.2⟩) raw
          simp only at h2
          cases b' with
          | false =>
            rw [if_neg Bool.false_ne_true] at h2 ⊢
            exact ⟨rfl, hlt, al5, L5, av, aw, s15, h5, up (Stp.refl s5.rel), h2⟩
          | true =>
            rw [if_pos rfl] at h2 ⊢
            have c5 := c4.stp s5
            refine hkR _ _ _ ⟨env4, L5, al5, D :: T, c5, ?_⟩
            revert h2
            generalize fk env4 L5 = r3
            intro h2
            cases r3 with
            | stuck => exact h2
            | exc _ _ _ => exact h2.elim
            | ok kw L6 =>
              intro yk H6 al6 s6 ryk
              have s16 := Stp.trans hl s15 s6
              have c6 := c5.stp s6
              match kw, h2, ryk with
              | .d (.int k), h2, ryk =>
                refine hvR _ _ _ ⟨env4, L6, al6, D :: T, c6, ?_⟩
                revert h2
                simp only
                generalize fv env4 L6 = r4
                intro h2
                cases r4 with
                | stuck => exact h2
                | exc _ _ _ => exact h2.elim
                | ok u L7 =>
                  intro yv H7 al7 s7 ryv
                  simp only at h2
                  by_cases hz : aw.length < sizeLine
                  · rw [if_pos hz] at h2
                    have s17 := Stp.trans hl s16 s7
                    have h7 : H7 D = some (.dK av) := s7.frame D _ (s6.frame D _ h5 (fun z => s5.rel.dis D z.mem List.mem_cons_self)) (fun z => s6.rel.dis D z.mem List.mem_cons_self)
                    have raw7 := up (Stp.trans s5.rel.len s6 s7)
                    have e : yk = kV (Sum.inl k) := dq_int (rp_d ryk)
                    refine ⟨av, Sum.inl k, e, h7, by rw [Paired.length raw7]; exact hz, rfl, hlt, al7, L7, putK av (Sum.inl k) yv, aput aw k u, Stp.updT hD s17, upd_same, ?_, h2⟩
                    rw [mask_in (by simp)]
                    exact put_pair (f := Sum.inl) (fun a b h => Sum.inl.inj h) raw7 k ryv
                  · rw [if_neg hz] at h2
                    exact h2.elim
              | .d .none, h2, _ => exact h2.elim
              | .d (.bool _), h2, _ => exact h2.elim
              | .d (.str _), h2, _ => exact h2.elim
              | .d (.list _), h2, _ => exact h2.elim
              | .d (.tuple _), h2, _ => exact h2.elim
              | .d (.dict _), h2, _ => exact h2.elim
              | .loc _, h2, _ => exact h2.elim
              | .tup _, h2, _ => exact h2.elim
              | .dct _, h2, _ => exact h2.elim
              | .exc _ _, h2, _ => exact h2.elim
              | .scr _, h2, _ => exact h2.elim
    · have e : i = ws.length := by omega
      subst e
      rw [List.drop_length] at h2
      unfold dcompL at h2
      exact .inl ⟨stop, h2 D H2 al2 hD (Stp.opened c1.rel s2) ⟨av, hav, raw⟩⟩
end
section
variable {K : PySem.W.Frag} {mg : Str → Option Value} {H : Hp} {al T : List Addr} {L : LH}
theorem rel_frz (r : Rel K mg H al T L) {n : Nat} {a : Addr} {u : HO} (ea : al[n]? = some a) : Rel K mg (upd H a u) al T (lockL (some n) L) := by
  have r1 := r.lock (some n)
  have ha : a ∈ al := List.mem_of_getElem? ea
  have m : mask (upd H a u) (al ++ T) = mask H (al ++ T) := mask_in (List.mem_append_left _ ha)
  refine ⟨r1.len, r1.nd, r1.dis, fun b h => ?_, fun k o e => ?_⟩
  · by_cases z : b = a
    · rw [z, upd_same]; simp
    · rw [upd_ne z]; exact r1.trk b h
  · obtain ⟨b, e1, q⟩ := r1.cell k o e
    rw [m]
    have : b ≠ a := by
      rintro rfl
      obtain ⟨h1, h2⟩ := List.getElem?_eq_some_iff.mp ea
      obtain ⟨h3, h4⟩ := List.getElem?_eq_some_iff.mp e1
      have : k = n := (List.getElem_inj r.nd).mp (h4.trans h2.symm)
      subst this
      unfold lockL at e
      by_cases hk : k < L.length
      · rw [List.getElem?_set_self hk] at e; cases e
      · rw [List.getElem?_eq_none (by simpa using hk)] at e; cases e
    exact ⟨b, e1, ObR.le (Le.refl _) (ALe.refl _) (fun _ z => by rw [upd_ne this]; exact z) q⟩
theorem not_alv_lock (r : Rel K mg H al T L) {n : Nat} {a : Addr} (ea : al[n]? = some a) : ¬ Alv al (lockL (some n) L) a := by
  rintro ⟨k, o, e1, e2⟩
  obtain ⟨h1, h2⟩ := List.getElem?_eq_some_iff.mp ea
  obtain ⟨h3, h4⟩ := List.getElem?_eq_some_iff.mp e1
  have : k = n := (List.getElem_inj r.nd).mp (h4.trans h2.symm)
  subst this
  unfold lockL at e2
  by_cases hk : k < L.length
  · rw [List.getElem?_set_self hk] at e2; cases e2
  · rw [List.getElem?_eq_none (by simpa using hk)] at e2; cases e2
theorem Stp.thaw {n : Nat} {a : Addr} {ob : Ob} {u z : HO} {H2 : Hp} {al2 T2 : List Addr} {L2 : LH} (r : Rel K mg H al T L) (ea : al[n]? = some a) (eo : L[n]? = some (some ob)) (hu : H a = some u)
    (s : Stp K mg (upd H a z) al T (lockL (some n) L) H2 al2 T2 L2) : Stp K mg H al T L (upd H2 a u) al2 T2 (openL (some n) L L2) := by
  have ha : a ∈ al := List.mem_of_getElem? ea
  obtain ⟨be, e1, f1⟩ := s.ext
  obtain ⟨te, e2, f2⟩ := s.text
  have ha2 : a ∈ al2 := by rw [e1]; exact List.mem_append_left _ ha
  have ea2 : al2[n]? = some a := s.ale _ _ ea
  have m2 : mask (upd H2 a u) (al2 ++ T2) = mask H2 (al2 ++ T2) := mask_in (List.mem_append_left _ ha2)
  have m1 : mask (upd H a z) (al ++ T) = mask H (al ++ T) := mask_in (List.mem_append_left _ ha)
  have hn : n < L.length := (List.getElem?_eq_some_iff.mp eo).1
  have hL2 : n < L2.length := by rw [← s.rel.len]; exact (List.getElem?_eq_some_iff.mp ea2).1
  have op : openL (some n) L L2 = L2.set n (some ob) := by simp [openL, eo]
  have old : ∀ b, upd H a z b = none → H b = none := fun b h => by
    by_cases q : b = a
    · rw [q, upd_same] at h; cases h
    · rw [upd_ne q] at h; exact h
  rw [op]
  refine ⟨⟨by simpa using s.rel.len, s.rel.nd, s.rel.dis, fun b h => ?_, fun k o e => ?_⟩, ⟨be, e1, fun b hb => old b (f1 b hb)⟩, ⟨te, e2, fun b hb => old b (f2 b hb)⟩, fun b o e nb => ?_, fun b e => ?_, fun k e => ?_, fun k o e => ?_⟩
  · by_cases q : b = a
    · rw [q, upd_same]; simp
    · rw [upd_ne q]; exact s.rel.trk b h
  · rw [m2]
    by_cases q : k = n
    · subst q
      rw [List.getElem?_set_self hL2] at e
      cases e
      obtain ⟨b, e3, qb⟩ := r.cell k ob eo
      rw [ea] at e3; cases e3
      refine ⟨a, ea2, ObR.le (by rw [← m1]; exact s.le) s.ale (fun o h => ?_) qb⟩
      rw [hu] at h; cases h; exact upd_same
    · rw [List.getElem?_set_ne (Ne.symm q)] at e
      obtain ⟨b, e3, qb⟩ := s.rel.cell k o e
      have : b ≠ a := by
        rintro rfl
        obtain ⟨h1, h2⟩ := List.getElem?_eq_some_iff.mp ea2
        obtain ⟨h3, h4⟩ := List.getElem?_eq_some_iff.mp e3
        exact q ((List.getElem_inj s.rel.nd).mp (h4.trans h2.symm))
      exact ⟨b, e3, ObR.le (Le.refl _) (ALe.refl _) (fun _ h => by rw [upd_ne this]; exact h) qb⟩
  · by_cases q : b = a
    · subst q
      rw [hu] at e; cases e; exact upd_same
    · rw [upd_ne q]
      refine s.frame b o (by rw [upd_ne q]; exact e) fun ⟨k, o', h1, h2⟩ => nb ?_
      unfold lockL at h2
      by_cases qk : k = n
      · subst qk
        rw [List.getElem?_set_self hn] at h2; cases h2
      · rw [List.getElem?_set_ne (Ne.symm qk)] at h2
        exact ⟨k, o', h1, h2⟩
  · by_cases q : b = a
    · rw [q, upd_same]; simp
    · rw [upd_ne q]; exact s.stay b (by rw [upd_ne q]; exact e)
  · by_cases q : k = n
    · subst q; rw [eo] at e; cases e
    · rw [List.getElem?_set_ne (Ne.symm q)]
      exact s.lck k (by unfold lockL; rw [List.getElem?_set_ne (Ne.symm q)]; exact e)
  · by_cases q : k = n
    · subst q; exact ⟨ob, List.getElem?_set_self hL2⟩
    · rw [List.getElem?_set_ne (Ne.symm q)]
      exact s.alv k o (by unfold lockL; rw [List.getElem?_set_ne (Ne.symm q)]; exact e)
end
section
variable {X : Cx} {Wx : WX}
theorem pget {α β : Type} {F : α → β → Prop} : ∀ {xs : List α} {ys : List β} {i : Nat} {y : β}, Paired F xs ys → ys[i]? = some y → ∃ x, xs[i]? = some x ∧ F x y
  | _, _, _, _, .nil, e => by simp at e
  | _, _, 0, _, .cons a _, e => by simp at e; subst e; exact ⟨_, rfl, a⟩
  | _, _, i + 1, _, .cons _ b, e => by simpa using pget (i := i) b (by simpa using e)
end
section
variable {X : Cx} {Wx : WX}
theorem ps_setDcM {i : Nat} {y : Str} {py : Pos} {kx vx tg iter : Expr} {ifs : List Expr} {scope : Scope} {own : List (Str × Nat)} {pos spos : Pos} {wi : TI} {g : TG} {tt : TT} {tk tv : TE} (hc : X.calm = true) (hN : X.N.Nodup) (hy : X.N[i]? = some y) (hyl : X.env.scope.names.lookup y = some .local)
    (hsw : swapsWith (.DictComp kx vx [⟨tg, iter, ifs, 0⟩] scope pos) (some (.Name y py)) spos.line X.env = pure true) (hi : PI X tg iter wi) (ok : BlkOk X.N X.env.scope scope own)
    (hg : BlkP X scope fun X => PG X tg g) (ht : BlkP X scope fun X => PTs X ifs tt) (hk : BlkP X scope fun X => PE X kx tk) (he : BlkP X scope fun X => PE X vx tv) (hs : ∀ x, foldedSetIterable iter X.env x = pure x) :
    PS X (.Assign [.Name y py] (.DictComp kx vx [⟨tg, iter, ifs, 0⟩] scope pos) spos) (tAsg (tDc wi g tt tk tv (own.map (·.2))) (gName i)) := by
  refine ⟨fun pins s σ H D I h => ?_⟩
  rw [exec_Assign_Name_used _ _ _ _ hsw]
  refine wpAny_bind (wpAny_standAt (wpAny_bind ?_))
  have h : tDc wi g tt tk tv (own.map (·.2)) σ H (fun x H1 => gName i x σ H1 D.nx) := h
  show wpAny _ X.A (do let _ ← comprehension (.DictComp kx vx [⟨tg, iter, ifs, 0⟩] scope pos) scope X.env (firstIterPos [⟨tg, iter, ifs, 0⟩] pos) newDict false (eval iter X.env) (some (assign (.Name y py) X.env))) _ _ s
  refine wpAny_bind (thn (dc_core (Qf := fun _ t => SP X pins D .next t) hc hN I hi ok hg ht hk he hs h fun L C t m H' I' q hn f => ?_) fun _ t hq => wpAny_pure (wpAny_pure hq))
  show wpAny _ _ (assign (.Name y py) X.env (.ref L)) _ _ _
  obtain ⟨f0, f1, f2, f3, f4, f5⟩ := f
  refine wpAny_assign_Name (store_ok2 (v := V.ref L) I' hN hy (.inl hyl) rfl (fun t2 I2 ⟨a, sb, ha⟩ => ?_) (.inr hyl))
  have ne : C ≠ a := ha.elim (fun z => by rw [z]; exact f1) fun z e => f4 y a z e.symm
  exact ⟨m, hn.sameBut sb ne, fun t3 sb3 => ⟨_, H', I2.turned (t' := t2.toks) (fun b o hb e => (sb3.2 b hb).trans e) f0 f1 f3 f4 f5, q⟩⟩
end
end L2.HW
namespace PySem
open Sem (wp)
theorem meets_enumerate_new1 {v : Value} {o : Obj} {H : Heap → Prop} (B : Begins v o H) :
    Meets (Builtin.«enumerate.__new__» ⟨[.type "enumerate", v], []⟩) (fun _ R s => H s.heap ∧
      R (.ok (.ret (.ref (s.heap.push o).objs.size))) { s with heap := (s.heap.push o).push { cls := .type "enumerate", data := .fields #[.none, .bool false, .ref s.heap.objs.size, rawInt 0, .none, .none] } }) :=
  .of_wp fun prog w A R s h => by
    obtain ⟨hp, g, d, tk, os⟩ := s; obtain ⟨h1, h⟩ := h
    have hsub := sub_enumerate
    have q1 : ∀ {A' : Around} {E : Value → Shared → Prop} {Q : Value → Shared → Prop}, Q (.ref hp.objs.size) ⟨hp.push o, g, d, tk, os⟩ → wpAny (model prog w) A' (pyIter v) Q E ⟨hp, g, d, tk, os⟩ :=
      fun q => B.iter prog w _ _ ⟨hp, g, d, tk, os⟩ _ h1 q
    wp_walk using q1
    refine wpAny_stack_any fun st => wpAny_pure ?_
    split
    · rename_i c _ _ _ _ _
      cases (c == Value.type "enumerate")
      · wp_walk using q1
        exact ⟨_, rfl, h⟩
      · wp_walk using q1
        exact ⟨_, rfl, h⟩
    · wp_walk using q1
      exact ⟨_, rfl, h⟩
section
variable {prog : Program} {w : World} {A : Around} {E : Value → Shared → Prop} {s : Shared}
theorem enum_begins1 {v : Value} {o : Obj} {H : Heap → Prop} {Q : Value → Shared → Prop} (B : Begins v o H) (h1 : H s.heap)
    (h : ∀ h', IsEnum h' (s.heap.objs.size + 1) s.heap.objs.size 0 .none → h'.get? s.heap.objs.size = some o → h'.objs.size = s.heap.objs.size + 2 →
      (∀ b o, s.heap.get? b = some o → h'.get? b = some o) → Q (.ref (s.heap.objs.size + 1)) { s with heap := h' }) :
    wpAny (model prog w) A (call (.type "enumerate") [v]) Q E s := by
  refine callType_new F.called_enumerate (by decide) (F.typeCall_enumerate_1 _) (F.newCall_enumerate_1 _) (fun obj => F.args_object_init_2 obj _) F.entry_enumerate_new
    (meets_enumerate_new1 B) ⟨h1, ?_⟩
  have hz : (s.heap.push o).objs.size = s.heap.objs.size + 1 := Heap.size_push ..
  show _ ∧ _
  rw [hz]
  have he : IsEnum ((s.heap.push o).push { cls := .type "enumerate", data := .fields #[.none, .bool false, .ref s.heap.objs.size, rawInt 0, .none, .none] }) (s.heap.objs.size + 1) s.heap.objs.size 0 .none := by
    have := Heap.get?_push_size (s.heap.push o) (o := { cls := .type "enumerate", data := .fields #[.none, .bool false, .ref s.heap.objs.size, rawInt 0, .none, .none] }) rfl
    rw [hz] at this; exact this
  refine ⟨⟨_, he, rfl⟩, h _ he (Heap.get?_push_of_some _ (Heap.get?_push_size _ B.free)) (by rw [Heap.size_push, hz]) fun b o x => Heap.get?_push_of_some _ (Heap.get?_push_of_some _ x)⟩
end
end PySem
namespace L2.HW
open PySem PySem.Spec PyProof.Rows
structure Wd (K : PySem.W.Frag) (sq : Hp → Addr → List V → Prop) (obj : Heap → Addr → Array Value → Prop) (iter : Heap → Addr → Addr → Nat → Prop) (io : Addr → Obj) : Prop where
  rd : ∀ {X : Cx} {pins : List (Addr × Obj)} {σ : St} {H : Hp} {s : Shared} {a : Addr} {xs : List V}, X.K = K → Inv X pins σ H s → sq H a xs → ∃ its : List Value, Vals xs its ∧ obj s.heap a its.toArray
  inj : ∀ {X : Cx} {pins : List (Addr × Obj)} {σ : St} {H : Hp} {s : Shared} {a : Addr} {xs ys : List V}, X.K = K → Inv X pins σ H s → sq H a xs → sq H a ys → xs = ys
  dr : ∀ {prog : Program} {w : World} {A : Around} (_ : A.handled = none) (it a : Addr) (_ : a ≠ it) (items : Array Value), Draws prog w A it [it, a] items.size (fun i v => items[i]? = some v) (fun i h => iter h it a i ∧ obj h a items)
  ob : ∀ {h : Heap} {it a : Addr} {i : Nat}, iter h it a i → ∃ o, h.get? it = some o ∧ ∀ v, o.data ≠ .cell v
  at' : ∀ {h h' : Heap} {it a : Addr} {i : Nat}, iter h it a i → (∀ o, h.get? it = some o → h'.get? it = some o) → iter h' it a i
  lt : ∀ {h : Heap} {a : Addr} {items : Array Value}, obj h a items → a < h.objs.size
  bg : ∀ (a : Addr) (items : Array Value), Begins (.ref a) (io a) fun h => obj h a items
  st : ∀ {h : Heap} {it a : Addr}, h.get? it = some (io a) → iter h it a 0
theorem wd_list (K : PySem.W.Frag) : Wd K (fun H a xs => SqL K H a xs) (fun h a items => h.IsList a items) (fun h it a i => h.IsListIter it a i) (fun a => { cls := .type "list_iterator", data := .fields #[.ref a, .int 0 0] }) where
  rd := fun hK I h => by
    subst hK
    obtain ⟨its, rv, p, _⟩ := I.list h
    exact ⟨its, rv, p.isList⟩
  inj := fun hK I h k => by subst hK; exact I.list_inj h k
  dr := fun hh it a hne items => Draws.list hh it a hne items
  ob := fun ⟨o, ho, hc, hd⟩ => ⟨o, ho, fun v q => by rw [hd] at q; cases q⟩
  at' := fun x k => x.at fun o e => k o e
  lt := fun ⟨o, ho, _⟩ => Heap.lt_size ho
  bg := fun a items => begins_list a items
  st := fun e => ⟨_, e, rfl, rfl⟩
theorem wd_tup (K : PySem.W.Frag) : Wd K (fun H a xs => SqT K H a xs) (fun h a items => h.IsTuple a items) (fun h it a i => h.IsTupleIter it a i) (fun a => { cls := .type "tuple_iterator", data := .fields #[.ref a, .int 0 0] }) where
  rd := fun hK I h => by
    subst hK
    obtain ⟨its, rv, p, _⟩ := I.tuple h
    exact ⟨its, rv, p⟩
  inj := fun hK I h k => by subst hK; exact I.tuple_inj h k
  dr := fun hh it a hne items => Draws.tuple hh it a hne items
  ob := fun ⟨o, ho, hc, hd⟩ => ⟨o, ho, fun v q => by rw [hd] at q; cases q⟩
  at' := fun x k => x.at fun o e => k o e
  lt := fun ⟨o, ho, _⟩ => Heap.lt_size ho
  bg := fun a items => begins_tuple a items
  st := fun e => ⟨_, e, rfl, rfl⟩
section
variable {K : PySem.W.Frag} {sq : Hp → Addr → List V → Prop} {obj : Heap → Addr → Array Value → Prop} {iter : Heap → Addr → Addr → Nat → Prop} {io : Addr → Obj}
def IteG (sq : Hp → Addr → List V → Prop) (k0 : Int) (a : Addr) : It :=
  ⟨fun i H => ∃ (xs : List V) (x : V), sq H a xs ∧ xs[i]? = some x, fun i H v H' => ∃ T x, v = .ref T ∧ H T = none ∧ H' = upd H T (.tup [.int (k0 + (i : Nat)), x]) ∧ ∀ xs, sq H a xs → xs[i]? = some x, fun i H => ∃ xs : List V, sq H a xs ∧ xs.length = i⟩
theorem turn_enumG {P : Program} {w : World} {elts : List Expr} {kk : Nat} {tpos : Pos} (W : Wd K sq obj iter io) (k0 : Int) (a e it : Addr) (hea : e ≠ a) (hia : a ≠ it) :
    Turn P w K (.Tuple elts kk tpos) (IteG sq k0 a) [e, it] e (fun i h => (∃ old, IsEnum h e it (k0 + ((i : Nat) : Int)) old) ∧ iter h it a i ∧ e ≠ it) where
  mem := by simp
  obj := fun i h st b hb => by
    obtain ⟨⟨old, he⟩, hi, _⟩ := st
    have e' : b = e ∨ b = it := by simpa using hb
    rcases e' with z | z
    · rw [z]; exact ⟨_, he, fun v q => nomatch q⟩
    · rw [z]; exact W.ob hi
  keep := fun i h h' st k => let ⟨⟨old, he⟩, hi, hne⟩ := st; ⟨⟨old, k e (by simp) _ he⟩, W.at' hi fun o q => k it (by simp) o q, hne⟩
  item := by
    intro X hP hw hK hc i pins s σ H E I hf st hg
    subst hP hw
    obtain ⟨⟨old, he⟩, hit, hne⟩ := st
    obtain ⟨xs, x, hq, hx⟩ := hg
    obtain ⟨its, rv, p⟩ := W.rd hK I hq
    obtain ⟨u, hu, ru⟩ := rv.get hx
    have hel : e < s.heap.objs.size := Heap.lt_size he
    have hil : it < s.heap.objs.size := by obtain ⟨_, q, _⟩ := W.ob hit; exact Heap.lt_size q
    have D := W.dr (prog := X.prog) (w := X.w) (A := X.A.in1) (show X.A.in1.handled = none from I.ok.hd hc) it a hia its.toArray
    have hef : e ∉ [it, a] := by simp [hne, hea]
    have hi : i < its.toArray.size := by
      have := (List.getElem?_eq_some_iff.mp hu).1
      simpa using this
    refine wpAny_pyNext_enum_itemC D he ⟨hit, p⟩ hi hne hef fun y h' tk hy ho hit' hT hsz hk => ?_
    have hy2 : u = y := by
      rw [show its.toArray[i]? = its[i]? by simp, hu] at hy
      exact Option.some.inj hy
    subst hy2
    refine ⟨_, rfl, wpAny_letOwnedTupleGo_enum (s := { s with heap := h', toks := tk + 1 }) ho fun h'' he' sb => ?_⟩
    have hT2 : h''.get? s.heap.objs.size = some { cls := .type "tuple", data := .seq #[.int (k0 + (i : Nat)) tk, u] } := (sb.2 _ (Nat.ne_of_gt hel)).trans hT
    have new : ObjOk X.prog X.w (upd H s.heap.objs.size (.tup [.int (k0 + (i : Nat)), x])) h'' s.heap.objs.size (.tup [.int (k0 + (i : Nat)), x]) :=
      ⟨by show 2 ≤ sizeLine; decide, [.int (k0 + (i : Nat)) tk, u], .cons ⟨_, rfl⟩ (.cons ru .nil), ⟨_, hT2, rfl, _, rfl⟩⟩
    have I1 : Inv X pins σ (upd H s.heap.objs.size (.tup [.int (k0 + (i : Nat)), x])) { s with heap := h'', toks := tk + 1 } :=
      I.turnedNew (ch := [e, it]) (fun b ob hb q => (sb.2 b (fun z => hb (by simp [z]))).trans (hk b ob (fun z => hb (by simp [z])) (fun z => hb (by simp [z])) q)) hf (Nat.le_refl _) new
    refine ⟨.ref s.heap.objs.size, _, I1, rfl, ⟨_, x, rfl, I.hok.fresh (Nat.le_refl _), rfl, fun ys hy => by rw [W.inj hK I hy hq]; exact hx⟩, ⟨⟨u, ?_⟩, W.at' hit'.1 fun o q => (sb.2 it (Ne.symm hne)).trans q, hne⟩, fun b hb => ?_⟩
    · have e1 : k0 + ((i + 1 : Nat) : Int) = k0 + (i : Int) + 1 := by omega
      rw [e1]; exact he'
    · have hb' : b < s.heap.objs.size := by
        have e' : b = e ∨ b = it := by simpa using hb
        rcases e' with z | z
        · rw [z]; exact hel
        · rw [z]; exact hil
      rw [upd_ne (Nat.ne_of_lt hb')]
      exact (hf b hb).1
  done := by
    intro X hP hw hK hc i pins s σ H E I hf st hg
    subst hP hw
    obtain ⟨⟨old, he⟩, hit, hne⟩ := st
    obtain ⟨xs, hq, hx⟩ := hg
    obtain ⟨its, rv, p⟩ := W.rd hK I hq
    obtain ⟨f0, f1, f2, f3, f4, f5⟩ := hf it (by simp)
    have hl := rv.length
    have D := W.dr (prog := X.prog) (w := X.w) (A := X.A.in1) (show X.A.in1.handled = none from I.ok.hd hc) it a hia its.toArray
    have hn : its.toArray.size = i := by simp; omega
    exact wpAny_pyNext_enum_endD D he (by rw [hn]; exact ⟨hit, p⟩) fun h' eb => ⟨rfl, I.turned (t' := s.toks) (fun b o hb q => eb b o hb q) f0 f1 f3 f4 f5⟩
  self := fun A i s Q E st h => let ⟨⟨_, he⟩, _⟩ := st; wpAny_pyIter_enum he h
theorem enum_core {X : Cx} {pins : List (Addr × Obj)} {σ : St} {H1 : Hp} {s1 : Shared} {tpos : Pos} {elts : List Expr} {kk : Nat} {a : Addr} {xs : List V} {R : It → Hp → Prop} (W : Wd X.K sq obj iter io) (I1 : Inv X pins σ H1 s1) (hq : sq H1 a xs) (q : R (IteG sq 0 a) H1) :
    wpAny (model X.prog X.w) X.A (call (.type "enumerate") [.ref a]) (fun v s1 => wpAny (model X.prog X.w) X.A (pyIter v) (PIE X pins σ (.Tuple elts kk tpos) R) X.xe s1) X.xe s1 := by
  obtain ⟨its, rv, p'⟩ := W.rd rfl I1 hq
  have hlt := W.lt p'
  refine enum_begins1 (W.bg a its.toArray) p' fun h' he hit hsz hk => wpAny_pyIter_enum he ?_
  have I2 : Inv X pins σ H1 { s1 with heap := h' } := I1.kept (t' := s1.toks) hk
  refine ⟨s1.heap.objs.size + 1, [s1.heap.objs.size + 1, s1.heap.objs.size], _, _, H1, rfl, I2, turn_enumG W 0 a (s1.heap.objs.size + 1) s1.heap.objs.size (Nat.ne_of_gt (Nat.lt_succ_of_lt hlt)) (Nat.ne_of_lt hlt), ⟨⟨.none, by simpa using he⟩, W.st hit, Nat.succ_ne_self _⟩, fun b hb => ?_, q⟩
  have e' : b = s1.heap.objs.size + 1 ∨ b = s1.heap.objs.size := by simpa using hb
  have hle : s1.heap.objs.size ≤ b := by
    rcases e' with z | z
    · rw [z]; exact Nat.le_add_right _ _
    · rw [z]; exact Nat.le_refl _
  exact I1.fpOk hle (I1.hok.fresh hle)
end

def enumV (k0 : Int) (ws : List Va) : List Va := ws.zipIdx.map fun p => mkTup [.d (.int (k0 + (p.2 : Nat))), p.1]
def srcE (k0 : Int) (fs : En → LH → Res (List Va)) : Srcf := fun env L => (fs env L).bind fun ws L1 => match ws with
  | [w] => match srcOf w L1 with
    | some p => .ok (enumV k0 p.1, p.2) L1
    | none => .stuck
  | _ => .stuck
theorem wlk_enum {K : PySem.W.Frag} {mg : Str → Option Value} {H : Hp} {al T : List Addr} {L : LH} {sq : Hp → Addr → List V → Prop} {k0 : Int} {a : Addr} {vs : List V} {ws : List Va}
    (hs : ∀ H1 al1 T1 L1, Stp K mg H al T L H1 al1 T1 L1 → sq H1 a vs) (r : Rps K mg (mask H (al ++ T)) al vs ws) : Wlk K mg H al T L (IteG sq k0 a) (enumV k0 ws) := by
  intro H1 al1 T1 L1 s
  have h1 := hs H1 al1 T1 L1 s
  have r1 := s.rps r
  refine ⟨⟨vs, h1, by rw [Paired.length r1]; simp [enumV]⟩, fun i w e => ?_⟩
  unfold enumV at e
  rw [List.getElem?_map] at e
  cases ei : ws[i]? with
  | none =>
    have : ws.zipIdx[i]? = none := by rw [List.getElem?_zipIdx, ei]; rfl
    rw [this] at e; cases e
  | some u =>
    have : ws.zipIdx[i]? = some (u, i) := by rw [List.getElem?_zipIdx, ei]; simp
    rw [this] at e
    cases e
    obtain ⟨v, e2, q⟩ := rps_get r1 ei
    refine ⟨⟨vs, v, h1, e2⟩, fun x H2 y => ?_⟩
    obtain ⟨p, x', rfl, hp, rfl, y⟩ := y
    have := y vs h1
    rw [e2] at this; cases this
    have st := s.rel.alloc (o := .tup [.int (k0 + (i : Nat)), v]) hp
    obtain ⟨n1, n2⟩ := s.rel.fresh hp
    refine ⟨st, rp_mkTup (mask_of (by simp [n1, n2]) upd_same) ?_⟩
    exact .cons (.d (.int _)) (.cons (st.rp q) .nil)
theorem srcOf_ok {K : PySem.W.Frag} {mg : Str → Option Value} {H : Hp} {al T : List Addr} {L : LH} (r : Rel K mg H al T L) {v : V} {w : Va} {p : List Va × Option Nat} (q : Rp K mg (mask H (al ++ T)) al v w) (e : srcOf w L = some p) :
    ∃ a vs, v = .ref a ∧ Rps K mg (mask H (al ++ T)) al vs p.1 ∧ ((H a = some (.lst vs) ∧ ∀ H1 al1 T1 L1, Stp K mg H al T (lockL p.2 L) H1 al1 T1 L1 → SqL K H1 a vs) ∨ (SqT K H a vs ∧ ∀ H1 al1 T1 L1, Stp K mg H al T (lockL p.2 L) H1 al1 T1 L1 → SqT K H1 a vs)) := by
  have tupc : ∀ {a : Addr} {vs : List V}, mask H (al ++ T) a = some (.tup vs) → SqT K H a vs ∧ ∀ H1 al1 T1 L1, Stp K mg H al T (lockL none L) H1 al1 T1 L1 → SqT K H1 a vs := fun {a vs} h => ⟨SqT.of (of_mask h).2, fun H1 al1 T1 L1 s => SqT.of (of_mask (s.le _ _ h)).2⟩
  cases w with
  | loc n =>
    simp only [srcOf] at e
    split at e
    · rename_i ws e1
      cases e
      obtain ⟨a, vs, rfl, ea, e3, e4⟩ := loc_lst r q e1
      refine ⟨a, vs, rfl, e4, .inl ⟨e3, fun H1 al1 T1 L1 s => SqL.of (s.frame a _ e3 fun ⟨k, o, h1, h2⟩ => ?_)⟩⟩
      have hn : n < L.length := (List.getElem?_eq_some_iff.mp e1).1
      have : k = n := by
        obtain ⟨h3, h4⟩ := List.getElem?_eq_some_iff.mp ea
        obtain ⟨h5, h6⟩ := List.getElem?_eq_some_iff.mp h1
        exact (List.getElem_inj r.nd).mp (h6.trans h4.symm)
      subst this
      unfold lockL at h2
      simp only at h2
      rw [List.getElem?_set_self hn] at h2
      cases h2
    · cases e
  | d y =>
    cases q with
    | d q =>
      cases q with
      | lst e1 e2 =>
        cases e
        refine ⟨_, _, rfl, all_dq e2, .inl ⟨(of_mask e1).2, fun H1 al1 T1 L1 s => SqL.of (of_mask (s.le _ _ e1)).2⟩⟩
      | tup e1 e2 =>
        cases e
        exact ⟨_, _, rfl, all_dq e2, .inr (tupc e1)⟩
      | non => cases e
      | bl _ => cases e
      | int _ => cases e
      | str _ => cases e
  | tup us =>
    cases e
    cases q with
    | tup e1 e2 => exact ⟨_, _, rfl, e2, .inr (tupc e1)⟩
  | dct _ => cases e
  | exc _ _ => cases e
  | scr ns => cases e
section
variable {X : Cx} {Wx : WX}
theorem pi_enumA {e : Expr} {ta : TA} {p pos tpos : Pos} {elts : List Expr} {kk : Nat} (hg : Gl X "enumerate") (hm : X.mg "enumerate" = none) (ha : PA X [e] ta) (hs : starEach [e] X.env = [(false, eval e X.env)] := by rfl) :
    PI X (.Tuple elts kk tpos) (.Call (.Name "enumerate" p) [e] [] pos) (fun σ H R => ta σ H fun vs H1 => ∃ a xs, vs = [.ref a] ∧ ((SqL X.K H1 a xs ∧ R (IteG (fun H a xs => SqL X.K H a xs) 0 a) H1) ∨ (SqT X.K H1 a xs ∧ R (IteG (fun H a xs => SqT X.K H a xs) 0 a) H1))) := by
  refine ⟨fun pins s σ H R I h => ?_⟩
  refine Call_ (ld_blt I hg hm boot_enumerate (PyProof.Rows.callWith_type1 (thn (ha.run pos pins s σ H _ I h) fun us s1 ⟨vs, H1, I1, r1, q1⟩ => ?_) hs rfl))
  obtain ⟨a, xs, ex, q⟩ := q1
  subst ex
  cases r1 with
  | cons r rr =>
    cases rr
    cases r
    rcases q with ⟨hq, q⟩ | ⟨hq, q⟩
    · exact enum_core (wd_list X.K) I1 hq q
    · exact enum_core (wd_tup X.K) I1 hq q
theorem si_enum {e : Expr} {fs : En → LH → Res (List Va)} {p pos tpos : Pos} {elts : List Expr} {kk : Nat} (hg : Gl X "enumerate") (hm : X.mg "enumerate" = none) (ha : SA X Wx [e] fs) (hs : starEach [e] X.env = [(false, eval e X.env)] := by rfl) :
    SI X Wx (.Tuple elts kk tpos) (.Call (.Name "enumerate" p) [e] [] pos) (srcE 0 fs) := by
  refine PI.imp (pi_enumA hg hm ha hs) ?_
  rintro σ H R ⟨env, L, al, T, c, q⟩
  unfold srcE at q
  refine iseq (R := RVs X) c q fun vs H1 ws L1 al1 c1 s1 r1 q1 => ?_
  split at q1
  · rename_i w
    obtain ⟨v, rfl, rv⟩ := rps_1 r1
    split at q1
    · rename_i p e1
      obtain ⟨a, xs, rfl, rx, h | h⟩ := srcOf_ok c1.rel rv e1
      · exact ⟨a, xs, rfl, .inl ⟨SqL.of h.1, q1 _ H1 al1 (Stp.refl c1.rel) (wlk_enum (sq := fun H a xs => SqL X.K H a xs) h.2 rx)⟩⟩
      · exact ⟨a, xs, rfl, .inr ⟨h.1, q1 _ H1 al1 (Stp.refl c1.rel) (wlk_enum (sq := fun H a xs => SqT X.K H a xs) h.2 rx)⟩⟩
    · exact q1.elim
  · exact q1.elim
end
end L2.HW
namespace L2.HW
open PySem PySem.Spec PyProof.Rows
def ExcF (K : PySem.W.Frag) (mg : Str → Option Value) (x : Str) : Prop := ∃ C : Addr, mg x = some (.ref C) ∧ PySem.W.excIn K C He.veBase "ValueError.__new__" = true ∧ PySem.W.keepIn K (.ref C) = true ∧ PySem.W.subIn K (.ref C) (.type "BaseException") = some true ∧ PySem.W.typeIn K (.ref C) = some (.type "type")
section
variable {X : Cx} {Wx : WX} {k : Nat}
def sRaise (x : Str) : SFn := fun env L => .exc x none env L
theorem ss_raise {x m : Str} {j : Nat} {p p2 pos pos2 : Pos} (c : Ctx X Wx k) (F : ExcF X.K X.mg x) (hg : Gl X x := by rfl) (hdb : (x == ("__debug__" : Str)) = false := by decide) :
    SS X Wx (.Raise (some (.Call (.Name x p) [.Constant (.str m) j p2] [] pos)) none pos2) (sRaise x) := by
  obtain ⟨C, hm, h1, h2, h3, h4⟩ := F
  refine PS.imp (ps_raise c.cm c.tk (pmk_own PySem.F.excBase_ValueError h1 hm h2 (raises_own h3 h4) hg hdb)) ?_
  rintro D σ H ⟨env, L, al, T, cf, h⟩
  exact h (.ref C) none σ H al (Stp.refl cf.rel) cf ⟨C, hm, rfl, rfl⟩
def dsp : List (EF × EF) → En → LH → Res (List (Int × Va))
  | [], _, L => .ok [] L
  | (f, g) :: r, env, L => match f env L with
    | .ok (.d (.int k)) L1 => match g env L1 with
      | .ok v L2 => match dsp r env L2 with
        | .ok kvs L3 => .ok ((k, v) :: kvs) L3
        | _ => .stuck
      | _ => .stuck
    | _ => .stuck
def mergeA (acc : List (Int × Va)) : List (Int × Va) → List (Int × Va)
  | [] => acc
  | p :: r => mergeA (aput acc p.1 p.2) r
def fDisp (ps : List (EF × EF)) : En → LH → Res Ob := fun env L => match dsp ps env L with
  | .ok kvs L1 => if kvs.length ≤ 15 then .ok (.di (mergeA [] kvs)) L1 else .stuck
  | _ => .stuck
def DR (K : PySem.W.Frag) (mg : Str → Option Value) (M : Hp) (al : List Addr) : List (V × V) → List (Int × Va) → Prop := Paired fun p q => p.1 = .int q.1 ∧ Rp K mg M al p.2 q.2
theorem DR.le {K : PySem.W.Frag} {mg : Str → Option Value} {M M' : Hp} {al al' : List Addr} (h : Le M M') (ha : ALe al al') {a : List (V × V)} {b : List (Int × Va)} (r : DR K mg M al a b) : DR K mg M' al' a b :=
  Paired.map2 (fun _ _ q => ⟨q.1, Rp.le h ha q.2⟩) r
abbrev dTr (X : Cx) (ps : List (EF × EF)) : List (TE × TE) := ps.map fun p => (Rdg X FX (RV X) p.1, Rdg X FX (RV X) p.2)
theorem dsp_run {σ : St} {env : En} {T : List Addr} : ∀ (ps : List (EF × EF)) {H : Hp} {L : LH} {al : List Addr} {Q : List (V × V) → Hp → Prop}, Conf X.K X.mg σ H env L al T →
    (match dsp ps env L with
    | .ok kvs L2 => ∀ H2 al2 vs, Stp X.K X.mg H al T L H2 al2 T L2 → DR X.K X.mg (mask H2 (al2 ++ T)) al2 vs kvs → Q vs H2
    | _ => False) → tPairs (dTr X ps) σ H Q
  | [], H, L, al, Q, c, h => h H al [] (Stp.refl c.rel) .nil
  | (f, g) :: r, H, L, al, Q, c, h => by
    refine ⟨env, L, al, T, c, ?_⟩
    unfold dsp at h
    show GPost X FX σ H al T L (RV X) (f env L) _
    revert h
    generalize f env L = r1
    intro h
    cases r1 with
    | stuck => exact h.elim
    | exc _ _ _ => exact h.elim
    | ok w L1 =>
      intro v H1 al1 s1 q1
      match w, q1, h with
      | .d (.int k), q1, h =>
        have c1 := c.stp s1
        refine ⟨env, L1, al1, T, c1, ?_⟩
        simp only at h
        show GPost X FX σ H1 al1 T L1 (RV X) (g env L1) _
        revert h
        generalize g env L1 = r2
        intro h
        cases r2 with
        | stuck => exact h.elim
        | exc _ _ _ => exact h.elim
        | ok u L2 =>
          intro y H2 al2 s2 q2
          have c2 := c1.stp s2
          refine dsp_run r c2 ?_
          simp only at h
          revert h
          generalize dsp r env L2 = r3
          intro h
          cases r3 with
          | stuck => exact h.elim
          | exc _ _ _ => exact h.elim
          | ok kvs L3 =>
            intro H3 al3 vs s3 q3
            refine h H3 al3 ((v, y) :: vs) (Stp.trans c.rel.len s1 (Stp.trans c1.rel.len s2 s3)) (.cons ⟨dq_int (rp_d q1), s3.rp q2⟩ q3)
      | .d .none, _, h => exact h.elim
      | .d (.bool _), _, h => exact h.elim
      | .d (.str _), _, h => exact h.elim
      | .d (.list _), _, h => exact h.elim
      | .d (.tuple _), _, h => exact h.elim
      | .d (.dict _), _, h => exact h.elim
      | .loc _, _, h => exact h.elim
      | .tup _, _, h => exact h.elim
      | .dct _, _, h => exact h.elim
      | .exc _ _, _, h => exact h.elim
      | .scr _, _, h => exact h.elim
theorem merge_pair {M : Hp} {al : List Addr} : ∀ {kvs : List (Int × Va)} {vs : List (V × V)} {acc : List (Key × V)} {aw : List (Int × Va)}, KRp X.K X.mg M al acc aw → DR X.K X.mg M al vs kvs →
    ∃ ks : List (Key × V), vs = ks.map (fun kv => (kV kv.1, kv.2)) ∧ ks.length = kvs.length ∧ KRp X.K X.mg M al (mergeK acc ks) (mergeA aw kvs)
  | [], _, acc, aw, h, .nil => ⟨[], rfl, rfl, h⟩
  | (k, w) :: kvs, (v, y) :: vs, acc, aw, h, .cons q r => by
    obtain ⟨q1, q2⟩ := q
    obtain ⟨ks, e1, e2, e3⟩ := merge_pair (acc := putK acc (Sum.inl k) y) (aw := aput aw k w) (put_pair (f := (Sum.inl : Int → Key)) inl_inj h k q2) r
    refine ⟨(Sum.inl k, y) :: ks, ?_, by simp [e2], e3⟩
    rw [List.map_cons, ← e1]
    have q1' : v = .int k := q1
    subst q1'
    rfl
theorem sf_disp {keys : List (Option Expr)} {values : List Expr} {ps : List (EF × EF)} {pos : Pos} (h : PPs X pos keys values (dTr X ps)) (hall : keys.all (·.isSome) = true := by rfl) (hl : keys.length = values.length := by rfl) (h0 : keys ≠ [] := by intro z; cases z) (h15 : keys.length ≤ 15 := by simp) :
    SF X Wx (.Dict keys values pos) (fDisp ps) := by
  refine PE.imp (pe_disp h hall hl h0 h15) ?_
  rintro σ H Q ⟨env, L, al, T, c, hq⟩
  intro p hp
  have s0 := c.rel.allocT (o := .dK []) hp
  have c0 := c.stp s0
  obtain ⟨n1, n2⟩ := c.rel.fresh hp
  refine dsp_run ps c0 ?_
  unfold fDisp at hq
  revert hq
  generalize dsp ps env L = r
  intro hq
  cases r with
  | stuck => exact hq.elim
  | exc _ _ _ => exact hq.elim
  | ok kvs L2 =>
    simp only at hq
    split at hq
    · rename_i h15'
      intro H2 al2 vs s2 q2
      have s02 := Stp.trans c.rel.len s0 s2
      have hp2 : H2 p = some (.dK []) := s2.frame p _ upd_same fun z => n1 z.mem
      obtain ⟨ks, e1, e2, e3⟩ := merge_pair (M := mask H2 (al2 ++ (p :: T))) (al := al2) (acc := []) (aw := []) .nil q2
      refine ⟨hp2, ks, e1, by omega, ?_⟩
      have s3 := Stp.updT (o := .dK (mergeK [] ks)) hp s02
      have m : mask (upd H2 p (.dK (mergeK [] ks))) (al2 ++ (p :: T)) = mask H2 (al2 ++ (p :: T)) := mask_in (List.mem_append_right _ List.mem_cons_self)
      exact hq p _ al2 hp s3 ⟨_, upd_same, by rw [m]; exact e3⟩
    · exact hq.elim
theorem sps_nil {pos : Pos} : PPs X pos [] [] (dTr X []) := pps_nil
theorem sps_cons {pos : Pos} {k v : Expr} {ks : List (Option Expr)} {vs : List Expr} {f g : EF} {ps : List (EF × EF)} (hk : SE X FX k f) (hv : SE X FX v g) (hr : PPs X pos ks vs (dTr X ps)) : PPs X pos (some k :: ks) (v :: vs) (dTr X ((f, g) :: ps)) := pps_cons hk hv hr
theorem get_list : PGet X (fun o i H Q => ∃ a xs k v, o = .ref a ∧ i = .int k ∧ SqL X.K H a xs ∧ 0 ≤ k ∧ xs[k.toNat]? = some v ∧ Q v H) := by
  intro pins s σ H o i ov iv Q I ro ri h
  obtain ⟨a, xs, k, v, rfl, rfl, hq, h0, hv, q⟩ := h
  cases ro
  obtain ⟨t, rfl⟩ := ri
  obtain ⟨its, r, pl, hz⟩ := I.list hq
  obtain ⟨u, hu, ru⟩ := r.get hv
  have hlt := (List.getElem?_eq_some_iff.mp hv).1
  have hs := sizeLine_eq
  exact wpAny_getItem_list pl.isList h0 (by omega) (by simpa using hu) ⟨v, H, I, ru, q⟩
def sAugIx (op : Int → Int → Int) (f g e : EF) : SFn := fun env L => (f env L).then env fun w L1 => (g env L1).then env fun u L2 => match w, u with
  | .loc n, .d (.int k) => match L2[n]? with
    | some (some (.lst ws)) => if 0 ≤ k then match ws[k.toNat]? with
      | some (.d (.int a)) => (e env L2).then env fun v L3 => match v, L3[n]? with
        | .d (.int b), some (some (.lst ws3)) => if k.toNat < ws3.length then .nx env (L3.set n (some (.lst (ws3.set k.toNat (.d (.int (op a b))))))) else .stuck
        | _, _ => .stuck
      | _ => .stuck
      else .stuck
    | _ => .stuck
  | _, _ => .stuck
theorem ss_augIx {op : Operator} {g : Int → Int → Int} {o i e : Expr} {fo fi fe : EF} {tpos pos : Pos} (ho : SE X Wx o fo) (hi : SE X Wx i fi) (he : SE X Wx e fe) (hp : PIp X op (ipI g))
    (ha : ∀ ov iv new, augStore i ov iv new = (do holding [new, ov, iv] (setItem ov iv new); release [new, ov, iv] []; pure .next) := by intros; rfl) :
    SS X Wx (.AugAssign (.Subscript o i tpos) op e pos) (sAugIx g fo fi fe) := by
  refine PS.imp (ps_augS ho hi get_list he hp set_list ha) ?_
  rintro D σ H ⟨env, L, al, T, c, h⟩
  unfold sAugIx at h
  refine sseq (R := RV X) c h fun x1 H1 w L1 al1 c1 s1 r1 h1 => ?_
  refine sseq (R := RV X) c1 h1 fun x2 H2 u L2 al2 c2 s2 r2 h2 => ?_
  split at h2
  · rename_i n k
    split at h2
    · rename_i ws e2
      split at h2
      · rename_i hk
        split at h2
        · rename_i a ea
          obtain ⟨b, vs, rfl, eb, e3, e4⟩ := loc_lst c2.rel (s2.rp r1) e2
          obtain ⟨v, ev, rv⟩ := rps_get e4 ea
          have hv := dq_int (rp_d rv)
          subst hv
          have hk2 := dq_int (rp_d r2)
          subst hk2
          refine ⟨b, vs, k, .int a, rfl, rfl, SqL.of e3, hk, ev, ?_⟩
          refine sseq (R := RV X) c2 h2 fun x3 H3 v3 L3 al3 c3 s3 r3 h3 => ?_
          split at h3
          · rename_i b3 ws3 e5
            split at h3
            · rename_i hlt
              have hx3 := dq_int (rp_d r3)
              subst hx3
              refine ⟨a, b3, rfl, rfl, ?_⟩
              obtain ⟨b', vs3, hb', eb', e6, e7⟩ := loc_lst c3.rel (s3.rp (s2.rp r1)) e5
              cases hb'
              have lv := Paired.length e7
              have hix : ixN vs3.length k = some k.toNat := by
                unfold ixN
                rw [if_pos hk, if_pos (by omega)]
              refine ⟨b, vs3, k, k.toNat, rfl, rfl, e6, hix, ?_⟩
              have st := c3.rel.write (o := .lst (vs3.set k.toNat (.int (g a b3)))) (ob' := .lst (ws3.set k.toNat (.d (.int (g a b3))))) eb' e5 ⟨_, upd_same, ?_⟩
              · exact h3 σ _ al3 st (c3.stp st)
              · exact rps_set (.d (.int _)) _ e7
            · exact h3.elim
          · exact h3.elim
        · exact h2.elim
      · exact h2.elim
    · exact h2.elim
  · exact h2.elim
def isD : LH → Va → Bool := fun L w => match w with
  | .dct _ => true
  | .loc n => match L[n]? with
    | some (some (.di _)) => true
    | some (some (.dt _)) => true
    | _ => false
  | _ => false
theorem isD_ok {K : PySem.W.Frag} {mg : Str → Option Value} {H : Hp} {al T : List Addr} {L : LH} (r : Rel K mg H al T L) {v : V} {w : Va} (q : Rp K mg (mask H (al ++ T)) al v w) (e : isD L w = true) : ∃ a, v = .ref a ∧ IsD H a := by
  cases w with
  | dct ks => cases q with | dct e1 e2 => exact ⟨_, rfl, .inl ⟨_, .inl (of_mask e1).2⟩⟩
  | loc n =>
    simp only [isD] at e
    cases q with
    | @loc _ a e1 =>
      split at e
      · rename_i kvs e2
        obtain ⟨a', e3, ks, e4, _⟩ := r.cell n _ e2
        rw [e1] at e3; cases e3
        exact ⟨a, rfl, .inl ⟨_, .inl e4⟩⟩
      · rename_i kvs e2
        obtain ⟨a', e3, ks, e4, _⟩ := r.cell n _ e2
        rw [e1] at e3; cases e3
        exact ⟨a, rfl, .inr ⟨_, .inl e4⟩⟩
      · cases e
  | d _ => cases e
  | tup _ => cases e
  | exc _ _ => cases e
  | scr _ => cases e
def eGet1 (f g : EF) : EF := fun env L => (f env L).bind fun w L1 => if isD L1 w then (g env L1).bind fun u L2 => match w.dget L2 u with
  | some (some x) => .ok x L2
  | some none => .ok (.d .none) L2
  | none => .stuck
  else .stuck
def eGet2 (f g h : EF) : EF := fun env L => (f env L).bind fun w L1 => if isD L1 w then (g env L1).bind fun u L2 => (h env L2).bind fun z L3 => match w.dget L3 u with
  | some (some x) => .ok x L3
  | some none => .ok z L3
  | none => .stuck
  else .stuck
theorem se_get2 {o e e2 : Expr} {f g h : EF} {apos cpos : Pos} (c : Ctx X Wx k) (ho : SE X Wx o f) (he : SE X Wx e g) (hx : SE X Wx e2 h) (m : M2 X o "get" apos e e2 cpos := by exact ⟨rfl, rfl, rfl, rfl⟩) : SE X Wx (.Call (.Attribute o "get" apos) [e, e2] [] cpos) (eGet2 f g h) := by
  refine PE.imp (pe_dget2 c.u1 ho he hx m) ?_
  rintro σ H Q ⟨env, L, al, T, c, q⟩
  unfold eGet2 at q
  refine rseq (R := RV X) c q fun v H1 w L1 al1 c1 s1 r1 q1 => ?_
  split at q1
  · rename_i hd
    obtain ⟨a, rfl, hD⟩ := isD_ok c1.rel r1 hd
    refine ⟨a, rfl, hD, ?_⟩
    refine rseq (R := RV X) c1 q1 fun y H2 u L2 al2 c2 s2 r2 q2 => ?_
    refine rseq (R := RV X) c2 q2 fun z H3 w3 L3 al3 c3 s3 r3 q3 => ?_
    split at q3
    · rename_i x e
      obtain ⟨a', ov, ea, hg, ho⟩ := dget_ok c3.rel (s3.rp (s2.rp r1)) (s3.rp r2) e
      cases ea
      cases ov with
      | none => exact ho.elim
      | some z => exact ⟨some z, hg, gok c3.rel q3 ho⟩
    · rename_i e
      obtain ⟨a', ov, ea, hg, ho⟩ := dget_ok c3.rel (s3.rp (s2.rp r1)) (s3.rp r2) e
      cases ea
      cases ov with
      | none => exact ⟨none, hg, gok c3.rel q3 r3⟩
      | some z => exact ho.elim
    · exact q3.elim
  · exact q1.elim
end
end L2.HW
namespace L2.HW
open PySem PySem.Spec PyProof.Rows
section
variable {X : Cx} {Wx : WX}
def itemsV (kvs : List (Int × Va)) : List Va := kvs.map fun p => mkTup [.d (.int p.1), p.2]
def srcIt (i : Nat) : Srcf := fun env L => match env[i]? with
  | some (some (.loc n)) => match L[n]? with
    | some (some (.di kvs)) => .ok (itemsV kvs, some n) L
    | _ => .stuck
  | _ => .stuck
theorem srcIt_out {i : Nat} {env : En} {L : LH} {α : Type} {P : Res α → Prop} {k : List Va × Option Nat → LH → Res α} (hs : ¬ P .stuck) (h : P ((srcIt i env L).bind k)) : ∃ n kvs, env[i]? = some (some (.loc n)) ∧ L[n]? = some (some (.di kvs)) ∧ P (k (itemsV kvs, some n) L) := by
  unfold srcIt at h
  split at h
  · rename_i n e
    split at h
    · rename_i kvs e2
      exact ⟨n, kvs, e, e2, h⟩
    · exact absurd h hs
  · exact absurd h hs
theorem wlk_items {σ : St} {H : Hp} {env : En} {L : LH} {al T : List Addr} {n : Nat} {a : Addr} {od : Obj} {ks : List (Key × V)} {kvs : List (Int × Va)} (c : Conf X.K X.mg σ H env L al T) (ea : al[n]? = some a) (kr : KRp X.K X.mg (mask H (al ++ T)) al ks kvs) :
    Wlk X.K X.mg (upd H a (.frz od (.dK ks))) al T (lockL (some n) L) (Iti a od ks) (itemsV kvs) := by
  have m : mask (upd H a (.frz od (.dK ks))) (al ++ T) = mask H (al ++ T) := mask_in (List.mem_append_left _ (List.mem_of_getElem? ea))
  have lenk : ks.length = kvs.length := Paired.length kr
  intro H1 al1 T1 L1 s
  have h1 : H1 a = some (.frz od (.dK ks)) := s.frame a _ upd_same (not_alv_lock c.rel ea)
  refine ⟨⟨h1, by simp [itemsV, lenk]⟩, fun j w ej => ?_⟩
  unfold itemsV at ej
  rw [List.getElem?_map] at ej
  cases ek : kvs[j]? with
  | none => rw [ek] at ej; cases ej
  | some pk =>
    rw [ek] at ej
    cases ej
    obtain ⟨⟨k, v⟩, hk, hk2, hv⟩ := pget kr ek
    refine ⟨⟨h1, (List.getElem?_eq_some_iff.mp hk).1⟩, fun x H2 y => ?_⟩
    obtain ⟨p, k', v', h3, rfl, hp, rfl⟩ := y
    rw [hk] at h3; cases h3
    have hk2 : k = Sum.inl pk.1 := hk2
    subst hk2
    have st := s.rel.alloc (o := .tup [kV (Sum.inl pk.1), v]) hp
    obtain ⟨n1, n2⟩ := s.rel.fresh hp
    refine ⟨st, rp_mkTup (mask_of (by simp [n1, n2]) upd_same) (.cons (.d (.int _)) (.cons (st.rp (s.rp ?_)) .nil))⟩
    rw [m]
    exact hv
theorem conf_lock {σ : St} {H : Hp} {env : En} {L : LH} {al T : List Addr} {n : Nat} {a : Addr} {u : HO} (c : Conf X.K X.mg σ H env L al T) (ea : al[n]? = some a) : Conf X.K X.mg σ (upd H a u) env (lockL (some n) L) al T := by
  have m : mask (upd H a u) (al ++ T) = mask H (al ++ T) := mask_in (List.mem_append_left _ (List.mem_of_getElem? ea))
  exact ⟨rel_frz c.rel ea, c.len, fun j w z => by
      obtain ⟨v, h1, h2⟩ := c.slot j w z
      exact ⟨v, h1, by rw [m]; exact h2⟩⟩
theorem fend_lock {σ : St} {H : Hp} {env : En} {L : LH} {al T : List Addr} {n : Nat} {a : Addr} {od : Obj} {ks : List (Key × V)} {kvs : List (Int × Va)} {r : Res Ob} {Q : VK} (c : Conf X.K X.mg σ H env L al T) (ea : al[n]? = some a) (eo : L[n]? = some (some (.di kvs))) (hH : H a = some (.dK ks))
    (h : FPost X Wx σ H al T L (match r with
      | .ok o L2 => .ok o (openL (some n) L L2)
      | _ => .stuck) Q) (hx : ∀ c f L', r ≠ .exc c f L') : FPost X Wx σ (upd H a (.frz od (.dK ks))) al T (lockL (some n) L) r fun v H' => H' a = some (.frz od (.dK ks)) ∧ Q v (upd H' a (.dK ks)) := by
  cases r with
  | stuck => exact h
  | exc c f L' => exact absurd rfl (hx c f L')
  | ok o L2 =>
    intro a2 H2 al2 ha2 s q
    have ne : a2 ≠ a := by
      rintro rfl
      rw [upd_same] at ha2; cases ha2
    have st := Stp.thaw c.rel ea eo hH s
    have ha2' : H a2 = none := by rw [upd_ne ne] at ha2; exact ha2
    refine ⟨s.frame a _ upd_same (not_alv_lock c.rel ea), h a2 _ al2 ha2' st ?_⟩
    have ha : a ∈ al2 := by
      obtain ⟨be, e1, _⟩ := s.ext
      rw [e1]; exact List.mem_append_left _ (List.mem_of_getElem? ea)
    have m2 : mask (upd H2 a (.dK ks)) (al2 ++ (a2 :: T)) = mask H2 (al2 ++ (a2 :: T)) := mask_in (List.mem_append_left _ ha)
    rw [m2]
    exact ObR.le (Le.refl _) (ALe.refl _) (fun o e => by rw [upd_ne ne]; exact e) q
theorem dcIt_lock {i : Nat} {sl vs : List Nat} {g : Va → En → LH → Res En} {t : En → LH → Res Bool} {fk fv : EF} {gR : TG} {tR : TT} {kR vR : TE} (hv : ∀ j ∈ sl, j ∈ vs)
    (hgR : ∀ v σ H Q, (∃ w env L al T, Conf X.K X.mg σ H env L al T ∧ RV X (mask H (al ++ T)) al v w ∧ TPost X sl σ H al T L (g w env L) Q) → gR v σ H Q)
    (htR : ∀ σ H Q, Rdg X FX RB t σ H Q → tR σ H Q) (hkR : ∀ σ H Q, Rdg X FX (RV X) fk σ H Q → kR σ H Q) (hvR : ∀ σ H Q, Rdg X FX (RV X) fv σ H Q → vR σ H Q) {σ : St} {H : Hp} {Q : VK}
    (h : FRdg X Wx (fDComp (srcIt i) g t fk fv vs) σ H Q) : tLockE (tDc (iItems (tVar i)) gR tR kR vR vs) σ H Q := by
  obtain ⟨env, L, al, T, c, h⟩ := h
  have h0 := srcIt_out (P := fun r => FPost X Wx σ H al T L r Q) (fun z => z) h
  clear h
  obtain ⟨n, kvs, e, eo, h⟩ := h0
  obtain ⟨v, sv, rv⟩ := c.slot i _ e
  cases rv with
  | @loc _ a ea =>
    obtain ⟨a', ea', ks, hH, kr⟩ := c.rel.cell n _ eo
    rw [ea] at ea'; cases ea'
    refine ⟨a, .dK ks, hH, trivial, fun od => ?_⟩
    have c' := conf_lock (u := .frz od (.dK ks)) c ea
    refine dc_at (Wx := Wx) (s := fun _ L => .ok (itemsV kvs, none) L) hv c' (fun R q => ?_) hgR htR hkR hvR ?_
    · exact ⟨.ref a, sv, a, od, ks, rfl, upd_same, q _ _ al (Stp.refl c'.rel) (wlk_items c ea kr)⟩
    · refine fend_lock c ea eo hH ?_ (fun c f L' z => ?_)
      rotate_left
      · unfold fDComp at z
        simp only [Res.bind_ok] at z
        split at z <;> cases z
      · unfold fDComp
        simp only [Res.bind_ok, lockL_none, openL_none]
        revert h
        generalize dcompL g t fk fv (itemsV kvs) [] (wipeE env vs) (lockL (some n) L) = r
        intro h
        cases r with
        | stuck => exact h
        | exc _ _ _ => exact h
        | ok us L2 => exact h
theorem sf_dcompIt {i : Nat} {x : Str} {p apos cpos : Pos} {kx vx : Expr} {elts : List Expr} {kk : Nat} {tpos : Pos} {ifs : List Expr} {scope : Scope} {own : List (Str × Nat)} {pos : Pos} {sl : List Nat} {g : Va → En → LH → Res En} {t : En → LH → Res Bool} {fk fv : EF} (hc : X.calm = true) (hN : X.N.Nodup)
    (ok : BlkOk X.N X.env.scope scope own) (hv : ∀ j ∈ sl, j ∈ own.map (·.2)) (hg : BlkP X scope fun X => SG X sl (.Tuple elts kk tpos) g) (ht : BlkP X scope fun X => STs X FX ifs t) (hk : BlkP X scope fun X => SE X FX kx fk) (he : BlkP X scope fun X => SE X FX vx fv)
    (hNi : X.N[i]? = some x := by rfl) (hvis : Vis X.env.scope x := by first | exact Or.inl rfl | exact Or.inr (Or.inl rfl) | exact Or.inr (Or.inr rfl)) (hd : (x == ("__debug__" : Str)) = false := by decide) (hcd : (x == ("__classdict__" : Str)) = false := by decide)
    (hbase : attributeBase (.Name x p) "items" X.env (eval (.Name x p) X.env) = eval (.Name x p) X.env := by rfl) (hline : (apos.endLine == cpos.line) = true := by rfl)
    (hs : ∀ z, foldedSetIterable (.Call (.Attribute (.Name x p) "items" apos) [] [] cpos) X.env z = pure z := by intro _; rfl) :
    SF X Wx (.DictComp kx vx [⟨.Tuple elts kk tpos, .Call (.Attribute (.Name x p) "items" apos) [] [] cpos, ifs, 0⟩] scope pos) (fDComp (srcIt i) g t fk fv (own.map (·.2))) := by
  refine PE.imp (pe_lock (pe_dc (g := gRd X sl g) (tt := Rdg X FX RB t) (tk := Rdg X FX (RV X) fk) (tv := Rdg X FX (RV X) fv) hc hN (pi_items (pe_var hNi hvis hd hcd) hbase hline) ok (fun s H C cl fp => hg s H C cl fp) (fun s H C cl fp => ht s H C cl fp) (fun s H C cl fp => hk s H C cl fp) (fun s H C cl fp => he s H C cl fp) hs)) fun σ H Q h => dcIt_lock hv (fun _ _ _ _ h => h) (fun _ _ _ h => h) (fun _ _ _ h => h) (fun _ _ _ h => h) h
theorem ss_newDcompIt {i j : Nat} {x y : Str} {py : Pos} {p apos cpos : Pos} {kx vx : Expr} {elts : List Expr} {kk : Nat} {tpos : Pos} {ifs : List Expr} {scope : Scope} {own : List (Str × Nat)} {pos spos : Pos} {sl : List Nat} {g : Va → En → LH → Res En} {t : En → LH → Res Bool} {fk fv : EF} (hc : X.calm = true) (hN : X.N.Nodup) (hy : X.N[j]? = some y) (hyl : X.env.scope.names.lookup y = some .local)
    (hsw : swapsWith (.DictComp kx vx [⟨.Tuple elts kk tpos, .Call (.Attribute (.Name x p) "items" apos) [] [] cpos, ifs, 0⟩] scope pos) (some (.Name y py)) spos.line X.env = pure true)
    (ok : BlkOk X.N X.env.scope scope own) (hv : ∀ j ∈ sl, j ∈ own.map (·.2)) (hg : BlkP X scope fun X => SG X sl (.Tuple elts kk tpos) g) (ht : BlkP X scope fun X => STs X FX ifs t) (hk : BlkP X scope fun X => SE X FX kx fk) (he : BlkP X scope fun X => SE X FX vx fv)
    (hNi : X.N[i]? = some x := by rfl) (hvis : Vis X.env.scope x := by first | exact Or.inl rfl | exact Or.inr (Or.inl rfl) | exact Or.inr (Or.inr rfl)) (hd : (x == ("__debug__" : Str)) = false := by decide) (hcd : (x == ("__classdict__" : Str)) = false := by decide)
    (hbase : attributeBase (.Name x p) "items" X.env (eval (.Name x p) X.env) = eval (.Name x p) X.env := by rfl) (hline : (apos.endLine == cpos.line) = true := by rfl)
    (hs : ∀ z, foldedSetIterable (.Call (.Attribute (.Name x p) "items" apos) [] [] cpos) X.env z = pure z := by intro _; rfl) :
    SS X Wx (.Assign [.Name y py] (.DictComp kx vx [⟨.Tuple elts kk tpos, .Call (.Attribute (.Name x p) "items" apos) [] [] cpos, ifs, 0⟩] scope pos) spos) (sSet j (eNew (fDComp (srcIt i) g t fk fv (own.map (·.2))))) := by
  refine PS.imp (ps_lock (ps_setDcM (g := gRd X sl g) (tt := Rdg X FX RB t) (tk := Rdg X FX (RV X) fk) (tv := Rdg X FX (RV X) fv) hc hN hy hyl hsw (pi_items (pe_var hNi hvis hd hcd) hbase hline) ok hg ht hk he hs)) ?_
  rintro D σ H ⟨env, L, al, T, c, h⟩
  have q : FRdg X Wx (fDComp (srcIt i) g t fk fv (own.map (·.2))) σ H fun v H' => gName j v σ H' D.nx := by
    refine ⟨env, L, al, T, c, ?_⟩
    unfold sSet eNew at h
    revert h
    generalize fDComp (srcIt i) g t fk fv (own.map (·.2)) env L = r
    intro h
    cases r with
    | stuck => exact h
    | exc c' f' L1 => exact fun cls d H' al' s e => h cls d σ H' al' s (c.stp s) e
    | ok o L1 =>
      intro a H' al' ha st ob
      have st' := Stp.cell c.rel ha st ob
      refine h _ H' (al' ++ [a]) st' ((c.stp st').put (.loc ?_))
      rw [← st.rel.len, List.getElem?_append_right (Nat.le_refl _), Nat.sub_self]
      rfl
  exact dcIt_lock hv (fun _ _ _ _ h => h) (fun _ _ _ h => h) (fun _ _ _ h => h) (fun _ _ _ h => h) q
end
end L2.HW
namespace L2.HW
open PySem PySem.Spec PyProof.Rows
section
variable {X : Cx} {Wx : WX}
def rItemsK : V → List V → Hp → VK → Prop := fun x xs H Q => ∃ (a : Addr) (kvs : List (Key × V)), x = .ref a ∧ xs = [] ∧ H a = some (.dK kvs) ∧ ∀ p, H p = none → Q (.ref p) (upd H p (DX.itemsO p a))
theorem mt_itemsK : MtR X "dict.items" rItemsK := by
  intro pins s σ H x xs v us Q I rx rxs h
  obtain ⟨a, kvs, rfl, rfl, ha, q⟩ := h
  cases rx
  cases rxs
  obtain ⟨z, hs0, vs, kv, hdo⟩ := I.hok a _ ha
  obtain ⟨o, es, ep, ho, hx, hdat, _⟩ := hdo
  refine DT.callItems (es := es) (ep := ep) hs0 ⟨o, ho, hx, hdat⟩ ?_
  have hf : H s.heap.objs.size = none := I.hok.fresh (Nat.le_refl _)
  exact ⟨.ref s.heap.objs.size, upd H s.heap.objs.size (DX.itemsO s.heap.objs.size a), I.laid (t' := s.toks) (fun b u e => Heap.get?_push_of_some _ e) (Nat.le_refl _) (DX.itemsO_ok (Heap.get?_push_size _ rfl)), rfl, q _ hf⟩
def rSortK : List V → Hp → VK → Prop := fun vs H Q => ∃ (p a : Addr) (ks : List (Int × Int)), vs = [.ref p] ∧ H p = some (DX.itemsO p a) ∧ H a = some (.dK (ks.map fun q => (Sum.inl q.1, V.int q.2))) ∧
  ((ks.map (·.1)).Nodup → ∀ (H' : Hp) (l : Addr) (ps : List (Addr × Int × Int)), (∀ b o, H b = some o → H' b = some o) → H l = none → (∀ z ∈ ps, H z.1 = none ∧ z.1 ≠ l) → (ps.map (·.2)).Perm ks → (ps.map (·.2)).Pairwise (fun e f => e.1 ≤ f.1) → H' l = some (.lst (ps.map fun z => V.ref z.1)) →
    (∀ z ∈ ps, H' z.1 = some (.tup [.int z.2.1, .int z.2.2])) → Q (.ref l) H')
theorem pairs_at {es : List DictEntry} {vs : List (Key × Value)} (h : Pairs (mixKind X.prog X.w) es vs) : ∀ {j : Nat} {e : DictEntry}, es[j]? = some e → ∃ k u, vs[j]? = some (k, u) ∧ keyIs k e.key = true ∧ e.val = u := by
  induction h with
  | nil => intro j e he; simp at he
  | @cons e0 kv es vs h1 h2 _ ih =>
    intro j e he
    cases j with
    | zero =>
      simp only [List.getElem?_cons_zero, Option.some.injEq] at he
      subst he
      exact ⟨kv.1, kv.2, rfl, h1, h2⟩
    | succ j =>
      simp only [List.getElem?_cons_succ] at he ⊢
      exact ih he
theorem kv_int : ∀ {ks : List (Int × Int)} {vs : List (Key × Value)}, KV (ks.map fun q => ((Sum.inl q.1 : Key), V.int q.2)) vs → ∀ {j : Nat} {k : Key} {u : Value}, vs[j]? = some (k, u) → ∃ q t, ks[j]? = some q ∧ k = Sum.inl q.1 ∧ u = Value.int q.2 t
  | [], [], _, j, k, u, h => by simp at h
  | q :: ks, (k0, u0) :: vs, .cons r rr, j, k, u, h => by
    cases j with
    | zero =>
      simp only [List.getElem?_cons_zero, Option.some.injEq, Prod.mk.injEq] at h
      obtain ⟨rfl, rfl⟩ := h
      obtain ⟨r1, t, r2⟩ := r
      exact ⟨q, t, rfl, r1.symm, r2⟩
    | succ j =>
      simp only [List.getElem?_cons_succ] at h ⊢
      exact kv_int rr h
def kOf (as : List Addr) (ks : List (Int × Int)) (v : Value) : Int × Int := match v with
  | .ref b => ks.getD (as.idxOf b) (0, 0)
  | _ => (0, 0)
theorem kOf_at {as : List Addr} {ks : List (Int × Int)} (nd : as.Nodup) {j : Nat} {b : Addr} {q : Int × Int} (h1 : as[j]? = some b) (h2 : ks[j]? = some q) : kOf as ks (.ref b) = q := by
  obtain ⟨hj, rfl⟩ := List.getElem?_eq_some_iff.mp h1
  unfold kOf
  simp only [List.Nodup.idxOf_getElem nd j hj, List.getD, h2, Option.getD_some]
theorem cr_sortedK (hc : X.calm = true) : CallR X (.builtin "sorted") rSortK := by
  intro pins s σ H xs us Q I r h
  obtain ⟨p, a, ks, rfl, hp, ha, q⟩ := h
  obtain rfl := Vals.ref1 r
  have view : s.heap.IsItemsView p a := (show ObjOk X.prog X.w H s.heap p (DX.itemsO p a) from I.hok p _ hp).1
  obtain ⟨z, hs0, vs, kv, hdo⟩ := I.hok a _ ha
  obtain ⟨o, es, ep, ho, hx, hdat, hko, hpr, hnd⟩ := hdo
  have l1 : (ks.map fun q => ((Sum.inl q.1 : Key), V.int q.2)).length = vs.length := Paired.length kv
  rw [List.length_map] at l1 z
  have l2 : es.toList.length = vs.length := hpr.length
  rw [Array.length_toList] at l2
  have hh : X.A.handled = none := I.ok.hd hc
  have hkn : (ks.map (·.1)).Nodup := by
    have e : vs.map (·.1) = (ks.map (·.1)).map (Sum.inl : Int → Key) := by
      apply List.ext_getElem?
      intro j
      rw [List.getElem?_map, List.getElem?_map, List.getElem?_map]
      cases hv : vs[j]? with
      | none =>
        have : ks[j]? = none := List.getElem?_eq_none (by have := List.getElem?_eq_none_iff.mp hv; omega)
        rw [this]; rfl
      | some ku =>
        obtain ⟨k, u⟩ := ku
        obtain ⟨q, t, e1, e2, e3⟩ := kv_int kv hv
        rw [e1]
        simp [e2]
    rw [e] at hnd
    exact List.Pairwise.of_map _ (fun a b h e => h (by rw [e])) hnd
  refine DT.sortedI (es := es) (ep := ep) hh view ⟨o, ho, hx, hdat⟩ (by omega) fun h' tk as hk hlt hl hG => ?_
  have lak : as.length = ks.length := by omega
  have nd : as.Nodup := List.Pairwise.imp (fun h => Nat.ne_of_lt h) hG.rise
  have pr : ∀ (j : Nat) (b : Addr), as[j]? = some b → ∃ (e : Int × Int) (t u : Tok), ks[j]? = some e ∧ h'.get? b = some { cls := .type "tuple", data := .seq #[Value.int e.1 t, Value.int e.2 u] } := by
    intro j b hj
    obtain ⟨en, he, hg⟩ := hG.pairs j b hj
    rw [← Array.getElem?_toList] at he
    obtain ⟨k, u, h1, h2, h3⟩ := pairs_at hpr he
    obtain ⟨e, t, f1, f2, f3⟩ := kv_int kv h1
    subst f2
    rcases keyIs_shape h2 with ⟨i, t', g1, g2⟩ | ⟨x, t', g1, _⟩
    · cases g1
      exact ⟨e, t', t, f1, by rw [hg, g2, h3, f3]⟩
    · cases g1
  have hob : (h'.push { cls := .type "list", data := .seq (as.map Value.ref).toArray }).get? h'.objs.size = some (seqObj "list" (as.map Value.ref).toArray 0) := Heap.get?_push_size _ rfl
  have kb : ∀ b o, s.heap.get? b = some o → (h'.push { cls := .type "list", data := .seq (as.map Value.ref).toArray }).get? b = some o := fun b o e => Heap.get?_push_of_some _ (hk b o e)
  have ne0 : ∀ b o, h'.get? b = some o → b ≠ h'.objs.size := fun b o e => Nat.ne_of_lt (Heap.lt_size e)
  generalize hh2 : h'.push { cls := .type "list", data := .seq (as.map Value.ref).toArray } = h2 at hob kb ⊢
  have ka : ∀ b o, h'.get? b = some o → h2.get? b = some o := fun b o e => by rw [← hh2]; exact Heap.get?_push_of_some _ e
  have isp : ∀ v ∈ as.map Value.ref, Srt.IsPair h2 v (kOf as ks v).1 (kOf as ks v).2 := by
    intro v hv'
    obtain ⟨b, hb, rfl⟩ := List.mem_map.mp hv'
    obtain ⟨j, hj⟩ := List.mem_iff_getElem?.mp hb
    obtain ⟨e, t, u, he, hg⟩ := pr j b hj
    rw [kOf_at nd hj he]
    exact ⟨b, _, t, u, 0, rfl, ka _ _ hg, rfl, rfl⟩
  refine wpAny_call_entry PyProof.Rows.slot_list_sort ⟨_, hob, rfl⟩ PyProof.Rows.entry_list_sort
    (SrtO.list_sort_ord (s := { s with heap := h2, toks := tk }) (SrtO.swo_lex (kOf as ks)) hob (by rw [List.length_map]; omega) (fun h2' => SrtO.pairs_sortableO (s := { s with heap := h2, toks := tk }) (by omega) isp fun o e => ?_) fun out o1 o2 => ⟨.none, rfl, ?_⟩) (PyProof.Rows.args_list_sort _)
  · rw [hob] at e
    cases e
    intro c
    exact absurd (Value.type.inj c) (by decide)
  · show EP X pins σ Q (.ref h'.objs.size) { s with heap := sortedHeap h2 h'.objs.size (as.map Value.ref) out.toArray, toks := tk }
    have hper : out.Perm (as.map Value.ref) := o2.perm
    obtain ⟨zs, pz, ez⟩ := perm_lift (fun z : Addr × Int × Int => Value.ref z.1) hper (as.zip ks) (by
      rw [show (as.zip ks).map (fun z => Value.ref z.1) = ((as.zip ks).map (·.1)).map Value.ref by rw [List.map_map]; rfl, List.map_fst_zip (by omega)])
    have idx : ∀ z ∈ zs, ∃ j : Nat, as[j]? = some z.1 ∧ ks[j]? = some z.2 := by
      intro z' hz'
      obtain ⟨j, hj⟩ := List.mem_iff_getElem?.mp (pz.mem_iff.mp hz')
      exact ⟨j, List.getElem?_zip_eq_some.mp hj⟩
    have hperm : (zs.map (·.2)).Perm ks := by
      have e := pz.map (·.2)
      rw [List.map_snd_zip (by omega)] at e
      exact e
    have hsort : (zs.map (·.2)).Pairwise (fun e f => e.1 ≤ f.1) := by
      have o1' : out.Pairwise (fun v u => SrtO.lexB (kOf as ks u) (kOf as ks v) = false) := o1
      rw [← ez, List.pairwise_map] at o1'
      rw [List.pairwise_map]
      refine List.Pairwise.imp_of_mem (fun {x y} hx hy h => ?_) o1'
      obtain ⟨j, j1, j2⟩ := idx x hx
      obtain ⟨i, i1, i2⟩ := idx y hy
      rw [kOf_at nd j1 j2, kOf_at nd i1 i2] at h
      have := SrtO.lexB_no.mp h
      omega
    have kF : ∀ b o, b ≠ h'.objs.size → h2.get? b = some o → (sortedHeap h2 h'.objs.size (as.map Value.ref) out.toArray).get? b = some o := fun b o hb e => (PyProof.Rows.sortedHeap_old hb (Heap.lt_size e)).trans e
    have kS : ∀ b o, s.heap.get? b = some o → (sortedHeap h2 h'.objs.size (as.map Value.ref) out.toArray).get? b = some o := fun b o e => kF b o (ne0 _ _ (hk b o e)) (kb b o e)
    obtain ⟨eF, heF⟩ := PyProof.Rows.sortedHeap_at (vs := as.map Value.ref) (out := out.toArray) hob
    have I1 : Inv X pins σ H { s with heap := sortedHeap h2 h'.objs.size (as.map Value.ref) out.toArray, toks := tk } := I.kept (t' := tk) kS
    have hn0 : H h'.objs.size = none := I.hok.fresh (Nat.le_of_lt hlt)
    have hlen : (zs.map fun z => V.ref z.1).length ≤ sizeLine := by
      have e := hperm.length_eq
      rw [List.length_map] at e
      rw [List.length_map]
      omega
    have rv : Vals (zs.map fun z => V.ref z.1) out := by
      rw [← ez]
      exact vals_maps (fun z : Addr × Int × Int => V.ref z.1) (fun z => Value.ref z.1) zs fun _ _ => rfl
    have I2 : Inv X pins σ (upd H h'.objs.size (.lst (zs.map fun z => V.ref z.1))) { s with heap := sortedHeap h2 h'.objs.size (as.map Value.ref) out.toArray, toks := tk } :=
      I1.take (h' := sortedHeap h2 h'.objs.size (as.map Value.ref) out.toArray) (t' := tk) (fun b ob _ e => e) (I.fpOk (Nat.le_of_lt hlt) hn0) ⟨hlen, out, eF, rv, heF⟩
    obtain ⟨H2, I3, g, qt⟩ := DX.takeT (P := fun b vs => ∃ (j : Nat) (e : Int × Int), as[j]? = some b ∧ ks[j]? = some e ∧ vs = [.int e.1, .int e.2]) I as _ I2 nd fun b hb => by
      obtain ⟨j, hj⟩ := List.mem_iff_getElem?.mp hb
      obtain ⟨e, t, u, he, hg⟩ := pr j b hj
      have hbl : s.heap.objs.size ≤ b := Nat.le_of_lt (hG.above b hb)
      refine ⟨hbl, ?_, [.int e.1, .int e.2], ⟨j, e, hj, he, rfl⟩, fun H3 => ⟨(by rw [sizeLine_eq]; show 2 ≤ 16777216; omega), [Value.int e.1 t, Value.int e.2 u], .cons ⟨_, rfl⟩ (.cons ⟨_, rfl⟩ .nil), ⟨_, kF _ _ (ne0 _ _ hg) (ka _ _ hg), rfl, 0, rfl⟩⟩⟩
      rw [upd_ne (ne0 _ _ hg)]
      exact I.hok.fresh hbl
    have gr : ∀ b o, H b = some o → H2 b = some o := fun b o e => g b o (by rw [upd_ne (ne_of_none e hn0)]; exact e)
    refine ⟨.ref h'.objs.size, H2, I3, rfl, q hkn H2 h'.objs.size zs gr hn0 (fun z' hz' => ?_) hperm hsort (g _ _ upd_same) fun z' hz' => ?_⟩
    · obtain ⟨i, i1, i2⟩ := idx z' hz'
      obtain ⟨e, t, u, he, hg⟩ := pr i z'.1 i1
      exact ⟨I.hok.fresh (Nat.le_of_lt (hG.above _ (List.mem_of_getElem? i1))), ne0 _ _ hg⟩
    · obtain ⟨i, i1, i2⟩ := idx z' hz'
      obtain ⟨vs', ⟨j, e, j1, j2, ev⟩, hH⟩ := qt z'.1 (List.mem_of_getElem? i1)
      have eij : i = j := (List.getElem?_inj (List.getElem?_eq_some_iff.mp i1).1 nd).mp (i1.trans j1.symm)
      subst eij
      have ee : e = z'.2 := Option.some.inj (j2.symm.trans i2)
      rw [ev, ee] at hH
      exact hH
def insP (q : Int × Int) : List (Int × Int) → List (Int × Int)
  | [] => [q]
  | a :: r => if q.1 < a.1 then q :: a :: r else a :: insP q r
def sortP : List (Int × Int) → List (Int × Int)
  | [] => []
  | q :: r => insP q (sortP r)
theorem insP_perm (q : Int × Int) : ∀ l, (insP q l).Perm (q :: l)
  | [] => .refl _
  | a :: r => by
    unfold insP
    split
    · exact .refl _
    · exact ((insP_perm q r).cons a).trans (.swap _ _ _)
theorem sortP_perm : ∀ l, (sortP l).Perm l
  | [] => .refl _
  | q :: r => (insP_perm q _).trans ((sortP_perm r).cons q)
theorem insP_srt {q : Int × Int} : ∀ {l : List (Int × Int)}, l.Pairwise (fun e f => e.1 ≤ f.1) → (insP q l).Pairwise (fun e f => e.1 ≤ f.1)
  | [], _ => by simp [insP]
  | a :: r, h => by
    obtain ⟨h1, h2⟩ := List.pairwise_cons.mp h
    unfold insP
    split
    · rename_i hq
      refine List.pairwise_cons.mpr ⟨fun x hx => ?_, h⟩
      rcases List.mem_cons.mp hx with rfl | hx
      · omega
      · have := h1 x hx; omega
    · rename_i hq
      refine List.pairwise_cons.mpr ⟨fun x hx => ?_, insP_srt h2⟩
      rcases List.mem_cons.mp ((insP_perm q r).mem_iff.mp hx) with rfl | hx
      · omega
      · exact h1 x hx
theorem sortP_srt : ∀ l, (sortP l).Pairwise (fun e f => e.1 ≤ f.1)
  | [] => .nil
  | q :: r => insP_srt (sortP_srt r)
theorem srt_uniq : ∀ {l m : List (Int × Int)}, l.Perm m → (l.map (·.1)).Nodup → l.Pairwise (fun e f => e.1 ≤ f.1) → m.Pairwise (fun e f => e.1 ≤ f.1) → l = m
  | [], m, hp, _, _, _ => hp.nil_eq
  | a :: l, [], hp, _, _, _ => absurd hp.length_eq (by simp)
  | a :: l, b :: m, hp, hn, h1, h2 => by
    obtain ⟨a1, a2⟩ := List.pairwise_cons.mp h1
    obtain ⟨b1, b2⟩ := List.pairwise_cons.mp h2
    rw [List.map_cons, List.nodup_cons] at hn
    have e : a = b := by
      have hb : b ∈ a :: l := hp.mem_iff.mpr List.mem_cons_self
      have ha : a ∈ b :: m := hp.mem_iff.mp List.mem_cons_self
      rcases List.mem_cons.mp hb with h | h
      · exact h.symm
      · rcases List.mem_cons.mp ha with h' | h'
        · exact h'
        · have := a1 b h
          have := b1 a h'
          exact absurd (List.mem_map_of_mem (f := (·.1)) h) (by rw [show b.1 = a.1 by omega]; exact hn.1)
    subst e
    rw [srt_uniq (List.Perm.cons_inv hp) hn.2 a2 b2]
def intKvs : List (Int × Va) → Option (List (Int × Int))
  | [] => some []
  | (k, .d (.int v)) :: r => (intKvs r).map ((k, v) :: ·)
  | _ :: _ => none
@[simp] theorem intKvs_map (ks : List (Int × Int)) : intKvs (ks.map fun q => (q.1, Va.d (.int q.2))) = some ks := by
  induction ks with
  | nil => rfl
  | cons q r ih => simp only [List.map_cons, intKvs, ih]; rfl
theorem intKvs_ok {M : Hp} {al : List Addr} : ∀ {vs : List (Key × V)} {kvs : List (Int × Va)} {ks : List (Int × Int)}, KRp X.K X.mg M al vs kvs → intKvs kvs = some ks → vs = ks.map fun q => (Sum.inl q.1, V.int q.2)
  | [], [], ks, .nil, h => by cases h; rfl
  | (k, v) :: vs, (i, w) :: kvs, ks, .cons q r, h => by
    obtain ⟨q1, q2⟩ := q
    cases w with
    | d x =>
      cases x with
      | int j =>
        simp only [intKvs] at h
        cases e : intKvs kvs with
        | none => rw [e] at h; cases h
        | some ys =>
          rw [e] at h
          cases h
          have hv := dq_int (rp_d q2)
          have hk : k = Sum.inl i := q1
          subst hk hv
          rw [List.map_cons, ← intKvs_ok r e]
      | none => cases h
      | bool _ => cases h
      | str _ => cases h
      | list _ => cases h
      | tuple _ => cases h
      | dict _ => cases h
    | loc _ => cases h
    | tup _ => cases h
    | dct _ => cases h
    | exc _ _ => cases h
    | scr _ => cases h
def fSortIt (i : Nat) : En → LH → Res Ob := fun env L => match env[i]? with
  | some (some (.loc n)) => match L[n]? with
    | some (some (.di kvs)) => match intKvs kvs with
      | some ks => .ok (.lst (((sortP ks).map fun q => PyData.tuple [.int q.1, .int q.2]).map Va.d)) L
      | none => .stuck
    | _ => .stuck
  | _ => .stuck
theorem Rel.grow {K : PySem.W.Frag} {mg : Str → Option Value} {H H' : Hp} {al T : List Addr} {L : LH} {l : Addr} (r : Rel K mg H al T L) (k : ∀ b o, H b = some o → H' b = some o) (hl : H l = none) (hl' : H' l ≠ none) : Stp K mg H al T L H' al (l :: T) L := by
  obtain ⟨n1, n2⟩ := r.fresh hl
  have m : Le (mask H (al ++ T)) (mask H' (al ++ (l :: T))) := fun b u e => by
    obtain ⟨n, e⟩ := of_mask e
    refine mask_of (fun z => ?_) (k _ _ e)
    simp only [List.mem_append, List.mem_cons] at z n
    rcases z with z | z | z
    · exact n (.inl z)
    · rw [z, hl] at e; cases e
    · exact n (.inr z)
  refine ⟨⟨r.len, r.nd, fun a h z => ?_, fun a h => ?_, fun n ob e => ?_⟩, ⟨[], by simp, fun _ z => nomatch z⟩, ⟨[l], rfl, fun b z => ?_⟩, fun b o e _ => k b o e, fun b e => ?_, fun n e => e, fun n o e => ⟨o, e⟩⟩
  · rcases List.mem_cons.mp z with z | z
    · exact n1 (z ▸ h)
    · exact r.dis a h z
  · have old : ∀ b, H b ≠ none → H' b ≠ none := fun b z => by
      cases e : H b with
      | none => exact absurd e z
      | some o => rw [k b o e]; simp
    rcases h with h | h
    · exact old a (r.trk a (.inl h))
    · rcases List.mem_cons.mp h with z | z
      · rw [z]; exact hl'
      · exact old a (r.trk a (.inr z))
  · obtain ⟨a, e1, q⟩ := r.cell n ob e
    exact ⟨a, e1, ObR.le m (ALe.refl _) (fun o z => k _ _ z) q⟩
  · have : b = l := by simpa using z
    rw [this]; exact hl
  · cases q : H b with
    | none => exact absurd q e
    | some o => rw [k b o q]; simp
theorem sf_sortIt {i : Nat} {x : Str} {p p2 apos cpos pos : Pos} (hc : X.calm = true) (hm : X.mg "sorted" = none) (hg : Gl X "sorted" := by rfl)
    (hNi : X.N[i]? = some x := by rfl) (hvis : Vis X.env.scope x := by first | exact Or.inl rfl | exact Or.inr (Or.inl rfl) | exact Or.inr (Or.inr rfl)) (hd : (x == ("__debug__" : Str)) = false := by decide) (hcd : (x == ("__classdict__" : Str)) = false := by decide)
    (hbase : attributeBase (.Name x p) "items" X.env (eval (.Name x p) X.env) = eval (.Name x p) X.env := by rfl) (hline : (apos.endLine == cpos.line) = true := by rfl) 
    (hs : starEach [.Call (.Attribute (.Name x p) "items" apos) [] [] cpos] X.env = (false, eval (.Call (.Attribute (.Name x p) "items" apos) [] [] cpos) X.env) :: starEach [] X.env := by rfl) :
    SF X Wx (.Call (.Name "sorted" p2) [.Call (.Attribute (.Name x p) "items" apos) [] [] cpos] [] pos) (fSortIt i) := by
  refine PE.imp (pe_callB (cr_sortedK hc) hg hm (by decide +kernel) (pa_cons (pe_bm0 PySem.F.plainAttrs_dict PySem.F.slot_dict_items PySem.F.type_dict_items mt_itemsK (pe_var hNi hvis hd hcd) hbase hline) pa_nil)) ?_
  rintro σ H Q ⟨env, L, al, T, c, h⟩
  have h0 : ∃ n kvs ks, env[i]? = some (some (.loc n)) ∧ L[n]? = some (some (.di kvs)) ∧ intKvs kvs = some ks ∧ FPost X Wx σ H al T L (.ok (.lst (((sortP ks).map fun q => PyData.tuple [.int q.1, .int q.2]).map Va.d)) L) Q := by
    unfold fSortIt at h
    split at h
    · rename_i n e
      split at h
      · rename_i kvs e2
        split at h
        · rename_i ks e3
          exact ⟨n, kvs, ks, e, e2, e3, h⟩
        · exact h.elim
      · exact h.elim
    · exact h.elim
  obtain ⟨n, kvs, ks, e, eo, ek, h⟩ := h0
  obtain ⟨v, sv, rv⟩ := c.slot i _ e
  cases rv with
  | @loc _ a ea =>
    obtain ⟨a', ea', vs, hH, kr⟩ := c.rel.cell n _ eo
    rw [ea] at ea'; cases ea'
    have hv := intKvs_ok kr ek
    subst hv
    refine ⟨.ref a, sv, .inr (.inr (.inl ⟨rfl, .inl ⟨_, hH⟩⟩)), a, _, rfl, rfl, hH, fun p0 hp0 => ?_⟩
    refine ⟨p0, a, ks, rfl, upd_same, by rw [upd_ne (ne_of_none hH hp0)]; exact hH, fun hnd H' l ps kk hl hz hperm hsrt hl' ht => ?_⟩
    have k' : ∀ b o, H b = some o → H' b = some o := fun b o e => kk b o (by rw [upd_ne (ne_of_none e hp0)]; exact e)
    have hlH : H l = none := by
      cases q : H l with
      | none => rfl
      | some o => rw [upd_ne (ne_of_none q hp0), q] at hl; cases hl
    have zH : ∀ z ∈ ps, H z.1 = none := fun z hz' => by
      cases q : H z.1 with
      | none => rfl
      | some o => have := (hz z hz').1; rw [upd_ne (ne_of_none q hp0), q] at this; cases this
    have st := Rel.grow c.rel k' hlH (by rw [hl']; simp)
    have eps : ps.map (·.2) = sortP ks := srt_uniq (hperm.trans (sortP_perm ks).symm) ((hperm.map (·.1)).nodup_iff.mpr hnd) hsrt (sortP_srt ks)
    refine h l H' al hlH st ⟨_, hl', ?_⟩
    rw [← eps, List.map_map, List.map_map]
    have go : ∀ qs : List (Addr × Int × Int), (∀ z ∈ qs, z ∈ ps) → Rps X.K X.mg (mask H' (al ++ (l :: T))) al (qs.map fun z => V.ref z.1) (qs.map (Va.d ∘ (fun q : Int × Int => PyData.tuple [.int q.1, .int q.2]) ∘ fun z => z.2)) := by
      intro qs
      induction qs with
      | nil => intro _; exact .nil
      | cons z r ih =>
        intro hq
        have hzp := hq z List.mem_cons_self
        obtain ⟨n1, n2⟩ := c.rel.fresh (zH z hzp)
        refine .cons (.d (.tup (mask_of ?_ (ht z hzp)) (.cons (.int _) (.cons (.int _) .nil)))) (ih fun y hy => hq y (List.mem_cons_of_mem _ hy))
        simp only [List.mem_append, List.mem_cons, not_or]
        exact ⟨n1, (hz z hzp).2, n2⟩
    exact go ps fun _ h => h
end
end L2.HW
namespace L2.HW
open PySem PySem.Spec PyProof.Rows
section
variable {X : Cx} {Wx : WX} {k : Nat}
mutual
theorem Dq.uniq {M : Hp} : ∀ {v : V} {x y : PyData}, Dq M v x → Dq M v y → x = y
  | _, _, _, .non, h => by cases h; rfl
  | _, _, _, .bl _, h => by cases h; rfl
  | _, _, _, .int _, h => by cases h; rfl
  | _, _, _, .str _, h => by cases h; rfl
  | _, _, _, .lst e d, h => by
    cases h with
    | lst e' d' => rw [e] at e'; cases e'; rw [DqAll.uniq d d']
    | tup e' d' => rw [e] at e'; cases e'
  | _, _, _, .tup e d, h => by
    cases h with
    | lst e' d' => rw [e] at e'; cases e'
    | tup e' d' => rw [e] at e'; cases e'; rw [DqAll.uniq d d']
theorem DqAll.uniq {M : Hp} : ∀ {vs : List V} {xs ys : List PyData}, DqAll M vs xs → DqAll M vs ys → xs = ys
  | _, _, _, .nil, h => by cases h; rfl
  | _, _, _, .cons a b, h => by
    cases h with
    | cons c d => rw [Dq.uniq a c, DqAll.uniq b d]
end
theorem dqAll_get {M : Hp} : ∀ {vs : List V} {xs : List PyData}, DqAll M vs xs → ∀ {i : Nat} {v : V}, vs[i]? = some v → ∃ d, xs[i]? = some d ∧ Dq M v d
  | _, _, .nil, i, v, h => by simp at h
  | _, _, .cons a b, 0, v, h => by
    simp only [List.getElem?_cons_zero, Option.some.injEq] at h
    subst h
    exact ⟨_, rfl, a⟩
  | _, _, .cons a b, i + 1, v, h => by
    simp only [List.getElem?_cons_succ] at h ⊢
    exact dqAll_get b h
def rMinDat (K : PySem.W.Frag) : List V → Hp → VK → Prop := fun vs H Q => ∃ a xs x ds, vs = [V.ref a] ∧ SqL K H a xs ∧ DqAll H xs (x :: ds) ∧ PySem.W.AlikeAll (x :: ds) ∧ PyData.depthAll (x :: ds) ≤ 60 ∧ ∀ v ∈ xs, Dq H v (PySem.W.minD x ds) → Q v H
theorem cr_minDat (hc : X.calm = true) (hu : X.A.units + 200 < cLine) : CallR X (.builtin "min") (rMinDat X.K) := by
  intro pins s σ H vs us Q I r h
  obtain ⟨a, xs, x, ds, rfl, hs, hd, hal, hdep, q⟩ := h
  obtain rfl := Vals.ref1 r
  obtain ⟨its, rv, p, _⟩ := I.list hs
  obtain ⟨as, ra⟩ := dqs_reads I hd rv
  refine PySem.W.min_list_data (I.ok.hd hc) p.isList (by simpa using ra) hal (by omega) fun i v h' tk bs hv hr kk => ?_
  have hv' : its[i]? = some v := by simpa using hv
  obtain ⟨y, hy, ry⟩ := pget rv hv'
  obtain ⟨d, hd1, hd2⟩ := dqAll_get hd hy
  obtain ⟨bs', r'⟩ := dq_reads I hd2 ry
  have e := (Reads.unique (Reads.keeps kk r') _ _ hr).1
  subst e
  exact ⟨y, H, I.kept (t' := tk) kk, ry, q y (List.mem_of_getElem? hy) hd2⟩
def rMinDef (K : PySem.W.Frag) : List V → List V → Hp → VK → Prop := fun vs zs H Q => ∃ a xs ds z, vs = [V.ref a] ∧ zs = [z] ∧ SqL K H a xs ∧ DqAll H xs ds ∧ PySem.W.AlikeAll ds ∧ PyData.depthAll ds ≤ 60 ∧ (ds = [] → Q z H) ∧ ∀ x r, ds = x :: r → ∀ v ∈ xs, Dq H v (PySem.W.minD x r) → Q v H
theorem cr_minDef (hc : X.calm = true) (hu : X.A.units + 200 < cLine) : CallRK X (.builtin "min") [Str.ofString "default"] (rMinDef X.K) := by
  intro pins s σ H vs zs us ws Q I r r2 h
  obtain ⟨a, xs, ds, z, rfl, rfl, hs, hd, hal, hdep, q0, q⟩ := h
  obtain rfl := Vals.ref1 r
  obtain ⟨w, rfl, rw'⟩ := Vals.one r2
  obtain ⟨its, rv, p, _⟩ := I.list hs
  obtain ⟨as, ra⟩ := dqs_reads I hd rv
  refine PySem.W.min_list_default (I.ok.hd hc) p.isList (by simpa using ra) hal (by omega) (fun e h' tk kk => ⟨z, H, I.kept (t' := tk) kk, rw', q0 e⟩) fun x r i v h' tk bs e hv hr kk => ?_
  have hv' : its[i]? = some v := by simpa using hv
  obtain ⟨y, hy, ry⟩ := pget rv hv'
  obtain ⟨d, hd1, hd2⟩ := dqAll_get hd hy
  obtain ⟨bs', r'⟩ := dq_reads I hd2 ry
  have e2 := (Reads.unique (Reads.keeps kk r') _ _ hr).1
  subst e2
  exact ⟨y, H, I.kept (t' := tk) kk, ry, q x r e y (List.mem_of_getElem? hy) hd2⟩
open Classical in
noncomputable def cMin1X : List Va → LH → Res Va := fun ws L => one ws L fun us => match vaInts us with
  | some ns => match minI ns with
    | some m => .ok (.d (.int m)) L
    | none => .stuck
  | none => match datas us with
    | some (x :: r) => if PySem.W.AlikeAll (x :: r) ∧ PyData.depthAll (x :: r) ≤ 60 then .ok (.d (PySem.W.minD x r)) L else .stuck
    | _ => .stuck
theorem ok_min1X : OkC X (fun xs H Q => rMin X.K xs H Q ∨ rMinDat X.K xs H Q) cMin1X := by
  intro Wx σ H al T L xs ws Q r q h
  unfold cMin1X at h
  obtain ⟨a, vs, us, rfl, f1, d1, h⟩ := one_ok r q h
  split at h
  · rename_i bs e
    have := ints_ok d1 e
    subst this
    split at h
    · rename_i m em
      obtain ⟨h1, h2⟩ := minI_spec em
      refine .inl ⟨a, bs, rfl, SqL.of f1, minI_pos em, fun m' h3 h4 => ?_⟩
      have : m' = m := by have := h2 m' h3; have := h4 m h1; omega
      rw [this]
      exact gok r h (.d (.int _))
    · exact h.elim
  · split at h
    · rename_i x rs e
      split at h
      · rename_i hc
        rw [datas_eq e] at d1
        have dq := dq_all d1
        refine .inr ⟨a, vs, x, rs, rfl, SqL.of f1, DqAll.le (mask_le _ _) dq, hc.1, hc.2, fun v hv hd => ?_⟩
        obtain ⟨i, hi⟩ := List.mem_iff_getElem?.mp hv
        obtain ⟨d, e1, e2⟩ := dqAll_get dq hi
        have e3 := Dq.uniq (Dq.le (mask_le _ _) e2) hd
        rw [e3] at e2
        exact gok r h (.d e2)
      · exact h.elim
    · exact h.elim
open Classical in
noncomputable def eMinDef (fs : En → LH → Res (List Va)) (g : EF) : EF := fun env L => (fs env L).bind fun ws L1 => (g env L1).bind fun z L2 => one ws L2 fun us => match datas us with
  | some [] => .ok z L2
  | some (x :: r) => if PySem.W.AlikeAll (x :: r) ∧ PyData.depthAll (x :: r) ≤ 60 then .ok (.d (PySem.W.minD x r)) L2 else .stuck
  | none => .stuck
theorem se_minDef {e z : Expr} {fs : En → LH → Res (List Va)} {g : EF} {p pos kpos : Pos} (c : Ctx X Wx k) (hm : X.mg "min" = none) (ha : SA X Wx [e] fs) (hz : SE X Wx z g) (hg : Gl X "min" := by rfl)
    (he : backTo pos (starEach [e] X.env) = (false, eval e X.env) :: backTo pos (starEach [] X.env) := by rfl) (hpl : (backTo pos (starEach [e] X.env)).any (·.1) = false := by rfl)
    (hall : (backToKw pos (keywordEach [⟨some "default", z, kpos⟩] X.env)).all (·.1.isSome) = true := by rfl) (hnone : (backToKw pos (keywordEach [⟨some "default", z, kpos⟩] X.env)).any (·.1.isNone) = false := by rfl) (hks : (backToKw pos (keywordEach [⟨some "default", z, kpos⟩] X.env)).filterMap (·.1) = [Str.ofString "default"] := by rfl) :
    SE X Wx (.Call (.Name "min" p) [e] [⟨some "default", z, kpos⟩] pos) (eMinDef fs g) := by
  refine PE.imp (pe_callBK (cr_minDef c.cm c.u200) hg hm rfl ha (pk_cons hz pk_nil) (by decide) (by decide) he hpl hall hnone hks) ?_
  rintro σ H Q ⟨env, L, al, T, cf, h⟩
  unfold eMinDef at h
  refine rseq (R := RVs X) cf h fun vs H1 ws L1 al1 c1 s1 r1 h1 => ?_
  refine rseq (R := RV X) c1 h1 fun y H2 w L2 al2 c2 s2 r2 h2 => ?_
  obtain ⟨a, xs, us, rfl, f1, d1, h⟩ := one_ok c2.rel (s2.rps r1) h2
  split at h
  · rename_i e
    rw [datas_eq e] at d1
    cases d1
    exact ⟨a, [], [], y, rfl, rfl, SqL.of f1, .nil, ⟨fun _ h => (nomatch h), fun _ h => (nomatch h)⟩, by simp [PyData.depthAll], fun _ => gok c2.rel h r2, fun _ _ z => (nomatch z)⟩
  · rename_i x rs e
    split at h
    · rename_i hc
      rw [datas_eq e] at d1
      have dq := dq_all d1
      refine ⟨a, xs, x :: rs, y, rfl, rfl, SqL.of f1, DqAll.le (mask_le _ _) dq, hc.1, hc.2, fun z => (nomatch z), fun x' r' ee v hv hd => ?_⟩
      cases ee
      obtain ⟨i, hi⟩ := List.mem_iff_getElem?.mp hv
      obtain ⟨d, e1, e2⟩ := dqAll_get dq hi
      have e3 := Dq.uniq (Dq.le (mask_le _ _) e2) hd
      rw [e3] at e2
      exact gok c2.rel h (.d e2)
    · exact h.elim
  · exact h.elim
end
end L2.HW
namespace L2.HW
open PySem PySem.Spec PyProof.Rows
instance (a b : Int) : Decidable (RgOk a b) := by unfold RgOk; infer_instance
def rngD (a : Int) (n : Nat) : List PyData := (List.range n).map fun i => .int (a + (i : Nat))
section
variable {X : Cx} {Wx : WX} {k : Nat}
def fLstR1 (f : EF) : En → LH → Res Ob := fun env L => (f env L).bind fun w L1 => match w with
  | .d (.int n) => if RgOk 0 n then .ok (.lst ((rngD 0 n.toNat).map Va.d)) L1 else .stuck
  | _ => .stuck
def fLstR2 (f g : EF) : En → LH → Res Ob := fun env L => (f env L).bind fun w L1 => (g env L1).bind fun u L2 => match w, u with
  | .d (.int a), .d (.int b) => if RgOk a b then .ok (.lst ((rngD a (b - a).toNat).map Va.d)) L2 else .stuck
  | _, _ => .stuck
def eTupR1 (f : EF) : EF := fun env L => (f env L).bind fun w L1 => match w with
  | .d (.int n) => if RgOk 0 n then .ok (.d (.tuple (rngD 0 n.toNat))) L1 else .stuck
  | _ => .stuck
def eTupR2 (f g : EF) : EF := fun env L => (f env L).bind fun w L1 => (g env L1).bind fun u L2 => match w, u with
  | .d (.int a), .d (.int b) => if RgOk a b then .ok (.d (.tuple (rngD a (b - a).toNat))) L2 else .stuck
  | _, _ => .stuck
variable {e : Expr} {fs : En → LH → Res (List Va)} {p pos : Pos}
theorem w_min1X (c : Ctx X Wx k) (hm : X.mg "min" = none) (ha : SA X Wx [e] fs) (hg : Gl X "min" := by rfl) (he : starEach [e] X.env = (false, eval e X.env) :: starEach [] X.env := by rfl) (hpl : (backTo pos (starEach [] X.env)).any (·.1) = false := by rfl) :
    SE X Wx (.Call (.Name "min" p) [e] [] pos) (eCallB cMin1X fs) := se_callB (CallR.or (cr_min c.cm) (cr_minDat c.cm c.u200)) ok_min1X hg hm rfl ha (by decide) (by decide) he hpl
end
end L2.HW
namespace L2.HW
open PySem PySem.Spec PyProof.Rows
def wKeep (K : PySem.W.Frag) (c : Value) (i : Nat) (ts : Addr → Value → Option Addr → TS) (D : Ends) : WX := fun cls d σ H =>
  PySem.W.exmOne K cls c = some true ∧ ∃ C : Addr, cls = .ref C ∧ ∀ a : Addr, H a = none →
    ts a cls d { nx := fun σ' H' => H' a = none → D.nx (σ'.set i none) (upd H' a (exk a C d)), rt := fun _ _ => False, bk := fun _ _ => False, ct := fun _ _ => False } (σ.set i (some (.ref a))) H
theorem inv_note {X : Cx} {pins : List (Addr × Obj)} {σ : St} {H : Hp} {s : Shared} {a C : Addr} {d : Option Addr} {oe : Obj} {vs : Array Value} (I : Inv X ((a, oe) :: pins) σ H s) (hex : X.ex = []) (h0 : X.s_0.heap.get? a = none)
    (hc : oe.cls = .ref C) (hd : oe.dict = d) (hv : oe.data = .fields vs) (n0 : ∀ p ∈ X.pn ++ pins, p.1 ≠ a) : Inv X pins σ (upd H a (exk a C d)) s := by
  obtain ⟨ga, na, nl, nf, nv⟩ := I.pin (a, oe) (by simp)
  have ne : ∀ {b : Addr} {o : HO}, H b = some o → b ≠ a := fun e z => by rw [z, na] at e; cases e
  have off : ∀ {b : Addr}, b ≠ a → upd H a (exk a C d) b = H b := fun z => upd_ne z
  refine ⟨I.ok, I.os, I.bare, ⟨I.base.keep, I.base.slot, fun b o e n x => ?_, I.base.there, fun b xs e => ?_, fun b o u e => ?_, fun b ps e => ?_⟩, I.loc, I.cell, ?_, fun x c e => ?_, fun p hp => ?_, fun b o e => ?_, I.len⟩
  · have : b ≠ a := fun z => by rw [z, h0] at e; cases e
    rw [off this]; exact I.base.free b o e n x
  · have e1 := I.base.tups b xs e
    rw [off (ne e1)]; exact e1
  · have e1 := I.base.frzs b o u e
    rw [off (ne e1)]; exact e1
  · obtain ⟨more, e1⟩ := I.base.tbls b ps e
    exact ⟨more, by rw [off (ne e1)]; exact e1⟩
  · rw [off fun z => nl z.symm]; exact I.free
  · have : c ≠ a := fun z => by
      obtain ⟨v, o, k1, k2⟩ := I.cell x c e
      rw [z, ga] at k1
      cases k1
      exact nv v (by simp_all)
    rw [off this]; exact I.freeC x c e
  · obtain ⟨k1, k2, k3, k4, k5⟩ := I.pin p (by
      rcases List.mem_append.mp hp with h | h
      · exact List.mem_append_left _ h
      · exact List.mem_append_right _ (List.mem_cons_of_mem _ h))
    exact ⟨k1, by rw [off (n0 p hp)]; exact k2, k3, k4, k5⟩
  · by_cases z : b = a
    · subst z
      rw [upd_same] at e
      cases e
      exact ⟨⟨oe, vs, ga, hc, hd, hv⟩, ⟨oe, ga⟩, fun h1 h2 ⟨o1, v1, q1, q2, q3, q4⟩ k => ⟨o1, v1, k o1 q1, q2, q3, q4⟩⟩
    · rw [off z] at e
      exact (I.hok b o e).stay (fun _ _ _ q => q) (fun c q => by rw [off (ne q)]; exact q) fun c xs q => by rw [off (ne q)]; exact q
theorem ps_try_keep {X : Cx} {x n : Str} {c : Value} {i : Nat} {body suite : List Stmt} {b0 : Stmt} {np pos pos' : Pos} {tb : WX → TS} {ts : Addr → Value → Option Addr → TS}
    (hs : X.stack = X.env :: X.outer) (hf : X.env.frame = some X.env.locals) (hex : X.ex = []) (hN : X.N.Nodup) (hi : X.N[i]? = some n) (hln : X.env.kindOf n = some .local) (hc : Names X x c)
    (hb : ∀ (W : WX) (pn : List (Addr × Obj)) (xe : Value → Shared → Prop), Takes (X.tr pn xe) W → PassesOwn (model X.prog X.w) X.A X.env xe → PSs (X.tr pn xe) body (tb W))
    (hsu : ∀ (a : Addr) (oe : Obj) (cls : Value) (d : Option Addr) (pn : List (Addr × Obj)), Zc cls d oe → (∃ vs, oe.data = .fields vs) → PSs (X.suite a ((a, oe) :: pn)) (b0 :: suite) (ts a cls d)) :
    PS X (.Try body [.ExceptHandler (some (.Name x np)) (some n) (b0 :: suite) pos'] [] [] pos) fun D σ H => tb (wKeep X.K c i ts D) D σ H := by
  refine ⟨fun pins s σ H D I h => ?_⟩
  have ok := I.ok
  have hfr : X.A.frames = some (X.env :: X.outer) := by rw [ok.frames, hs]
  refine wpAny_Try_except ?_
  have body_ := (hb (wKeep X.K c i ts D) (X.pn ++ pins) (fun e s1 => wpAny (model X.prog X.w) X.A (noteFrame e X.env) (fun _ s2 => wpAny (model X.prog X.w) X.A (setFlight e none) (fun _ s3 => wpAny (model X.prog X.w) X.A (handleBy e X.env [.ExceptHandler (some (.Name x np)) (some n) (b0 :: suite) pos']) (SP X pins D) X.xe s3) X.xe s2) X.xe s1) ?_ PassesOwn.looking).run [] s σ H D (I.toTry _) h
  · refine wpAny_mono body_ (fun f s1 hsp => ?_) fun e s1 he => he
    cases f with
    | next => obtain ⟨σ1, H1, J, q⟩ := hsp; exact wpAny_execs_nil ⟨σ1, H1, J.ofTry ok, q⟩
    | brk => obtain ⟨σ1, H1, J, q⟩ := hsp; exact ⟨σ1, H1, J.ofTry ok, q⟩
    | cont => obtain ⟨σ1, H1, J, q⟩ := hsp; exact ⟨σ1, H1, J.ofTry ok, q⟩
    | ret u => obtain ⟨v, σ1, H1, J, r, q⟩ := hsp; exact ⟨v, σ1, H1, J.ofTry ok, r, q⟩
  · rintro u s1 ⟨a, B, sI, pins1, σ1, H1, cls, d, rfl, J0, nb, up, sky, na, os, ag, hm, C, hC, hyes⟩
    have J := J0.ofTry ok
    have sky1 : Sky B (X.env :: X.outer) a (Zc cls d) X.env.locals s1.heap := by rw [← hs]; exact sky
    refine Sky.land Zc.steady hfr hf sky1 fun h3 fl3 up3 => ?_
    have J3 : Inv X pins σ1 H1 { s1 with heap := h3 } := J.landed nb fl3.1 (up.trans up3) os ag
    obtain ⟨oe3, vs3, he3, hz3, hd3⟩ := fl3.there
    have nfr : a ∉ frs (X.env :: X.outer) := fun hm2 => by
      obtain ⟨_, o2, e2, n2⟩ := fl3.2.2.1.mem hm2
      rw [he3] at e2
      cases e2
      exact n2 _ hd3
    have nL : a ≠ X.env.locals := fun z => nfr (List.mem_filterMap.mpr ⟨X.env, List.mem_cons_self, by rw [hf, z]⟩)
    have nF : a ∉ X.fs := fun hm2 => by
      obtain ⟨e, he, q⟩ := List.mem_filterMap.mp hm2
      exact nfr (List.mem_filterMap.mpr ⟨e, List.mem_cons_of_mem _ he, q⟩)
    have nI : sI.heap.get? a = none := by
      cases e : sI.heap.get? a with
      | none => rfl
      | some o =>
        have := nb a o e (by show a ∉ frs X.stack; rw [hs]; exact nfr)
        rw [fl3.2.1] at this
        cases this
    have n0 : X.s_0.heap.get? a = none := by
      cases e : X.s_0.heap.get? a with
      | none => rfl
      | some o =>
        obtain ⟨o2, e2⟩ := J.base.there a o e (by rw [hex]; simp)
        rw [nI] at e2; cases e2
    have npin : ∀ p ∈ X.pn ++ pins, p.1 ≠ a := fun p hp z => by
      have := (J.pin p hp).1
      rw [z, nI] at this; cases this
    have S3 := J3.suite he3 hd3 na nL nF
    refine wpAny_handleBy_cons (codeAny_handlers_test ?_) (by intro q; cases q)
    have LM := PySem.W.exm_one (M := model X.prog X.w) (c := c) J3.kIn (fun A Q E s k q => wpAny_typeOf_ref (k a oe3 he3) (by rw [hz3.1]; exact q)) hm
    have test : ∀ {Q : Value → Shared → Prop} {E : Value → Shared → Prop}, Q c _ → wpAny (model X.prog X.w) (X.A.mark (some (.ref a))) (eval (.Name x np) X.env) Q E _ := fun {Q E} q => by
      obtain ⟨hg, hdbg, hm3 | ⟨hm3, hv, hnn⟩⟩ := hc
      · exact ld_glob S3 hg hm3 q hdbg
      · exact ld_blt S3 hg hm3 hv q hnn hdbg
    refine test (PySem.W.Looks.here LM ?_)
    refine codeAny_handlers_suite_as (HandSPX.lands_againZ fl3 fun h4 fl4 up4 => ?_)
    have J4 : Inv X pins σ1 H1 { s1 with heap := h4 } := J.landed nb fl4.1 ((up.trans up3).trans up4) os ag
    obtain ⟨oe4, vs4, he4, hz4, hd4⟩ := fl4.there
    have S4 := J4.suite he4 hd4 na nL nF
    refine store_ok (X := X.suite a ((a, oe4) :: (X.pn ++ pins))) (σ := σ1) (H := H1) (i := i) (x := n) (v := V.ref a) S4 hN hi (.inl hln) rfl (fun s5 S5 => ?_) (.inr hln)
    refine wpAny_mono ((hsu a oe4 cls d (X.pn ++ pins) hz4 ⟨vs4, hd4⟩).run [] s5 _ H1 _ S5 (hyes a na)) (fun f s6 hsp => ?_) (fun _ _ z => z.elim)
    cases f with
    | next =>
      obtain ⟨σ6, H6, S6, q6⟩ := hsp
      have P6 : Inv X ((a, oe4) :: pins) σ6 H6 s6 := ⟨ok, S6.os, S6.bare, S6.base, S6.loc, S6.cell, S6.free, S6.freeC, fun p hp => S6.pin p (by
        have : p ∈ (a, oe4) :: (X.pn ++ pins) := by
          rcases List.mem_append.mp hp with h | h
          · exact List.mem_cons_of_mem _ (List.mem_append_left _ h)
          · rcases List.mem_cons.mp h with rfl | h
            · exact List.mem_cons_self
            · exact List.mem_cons_of_mem _ (List.mem_append_right _ h)
        exact List.mem_append_left _ this), S6.hok, S6.len⟩
      refine gone_ok P6 hN hi hln fun s7 J7 => ⟨σ6.set i none, upd H6 a (exk a C d), inv_note J7 hex n0 (by rw [hz4.1, hC]) hz4.2 hd4 npin, q6 (J7.pin (a, oe4) (by simp)).2.1⟩
    | brk => obtain ⟨_, _, _, q⟩ := hsp; exact q.elim
    | cont => obtain ⟨_, _, _, q⟩ := hsp; exact q.elim
    | ret u => obtain ⟨_, _, _, _, _, q⟩ := hsp; exact q.elim
end L2.HW
namespace L2.HW
open PySem PySem.Spec PyProof.Rows
def ten : List Str := ["NoWeb", "NoMoment", "NoNumber", "NoRoad", "NoCut", "NoShape", "NotTree", "NotRoad", "NoText", "Unlike"]
def hasteS : Str := "HasteError"
structure KX (K : PySem.W.Frag) (C : Addr) : Prop where
  cl : (PySem.W.clsIn K C).isSome = true
  ga : PySem.W.findIn K (.ref C) "__getattribute__" = some (some (.builtin "BaseException.__getattribute__"))
  gt : PySem.W.findIn K (.ref C) "__getattr__" = some none
  sb : PySem.W.subIn K (.ref C) (.type "BaseException") = some true
  cc : PySem.W.findIn K (.ref C) "__class__" = some (some (.builtin "object.__class__"))
  sp : PySem.W.specialIn K (.builtin "object.__class__") "__get__" = some (some (.builtin "getset_descriptor.__get__"))
  tk : PySem.W.takesIn K (.builtin "object.__class__") = some true
  mo : PySem.W.mroIn K C (.type "object") = some true
def kxB (K : PySem.W.Frag) (C : Addr) : Bool :=
  (PySem.W.clsIn K C).isSome && (decide (PySem.W.findIn K (.ref C) "__getattribute__" = some (some (.builtin "BaseException.__getattribute__"))) && (decide (PySem.W.findIn K (.ref C) "__getattr__" = some none) &&
  (decide (PySem.W.subIn K (.ref C) (.type "BaseException") = some true) && (decide (PySem.W.findIn K (.ref C) "__class__" = some (some (.builtin "object.__class__"))) && (decide (PySem.W.specialIn K (.builtin "object.__class__") "__get__" = some (some (.builtin "getset_descriptor.__get__"))) &&
  (decide (PySem.W.takesIn K (.builtin "object.__class__") = some true) && decide (PySem.W.mroIn K C (.type "object") = some true)))))))
theorem kxB_ok {K : PySem.W.Frag} {C : Addr} (h : kxB K C = true) : KX K C := by
  unfold kxB at h
  simp only [Bool.and_eq_true, decide_eq_true_eq] at h
  obtain ⟨h1, h2, h3, h4, h5, h6, h7, h8⟩ := h
  exact ⟨h1, h2, h3, h4, h5, h6, h7, h8⟩
def isErr (x y : Str) : Bool := decide (x = y) || decide (y = hasteS)
structure ExcAll (K : PySem.W.Frag) (mg : Str → Option Value) : Prop where
  at_ : ∀ x ∈ hasteS :: ten, ∃ C : Addr, mg x = some (.ref C)
  kx : ∀ x ∈ ten, ∀ C, mg x = some (.ref C) → KX K C
  ko : ∀ x ∈ ten, ∀ y ∈ hasteS :: ten, ∀ C D, mg x = some (.ref C) → mg y = some (.ref D) → PySem.W.kitOne K (.ref C) (.ref D) = some (isErr x y)
  kv : ∀ x ∈ ten, ∀ C, mg x = some (.ref C) → PySem.W.kitOne K (.ref C) (.type "ValueError") = some true
  kn : ∀ y ∈ hasteS :: ten, ∀ D, mg y = some (.ref D) → PySem.W.kitOne K (.type "NoneType") (.ref D) = some false
  nv : PySem.W.kitOne K (.type "NoneType") (.type "ValueError") = some false
  em : ∀ x ∈ ten, ∀ C D, mg x = some (.ref C) → mg hasteS = some (.ref D) → PySem.W.exmOne K (.ref C) (.ref D) = some true
def excAllB (K : PySem.W.Frag) : Bool :=
  (hasteS :: ten).all (fun x => He.Fa.ok K (.glo x)) && (ten.all (fun x => kxB K (He.ga K x) && ((hasteS :: ten).all (fun y => decide (PySem.W.kitOne K (.ref (He.ga K x)) (.ref (He.ga K y)) = some (isErr x y))) &&
    (decide (PySem.W.kitOne K (.ref (He.ga K x)) (.type "ValueError") = some true) && decide (PySem.W.exmOne K (.ref (He.ga K x)) (.ref (He.ga K hasteS)) = some true)))) &&
  ((hasteS :: ten).all (fun y => decide (PySem.W.kitOne K (.type "NoneType") (.ref (He.ga K y)) = some false)) && decide (PySem.W.kitOne K (.type "NoneType") (.type "ValueError") = some false)))
theorem excAll_of {K : PySem.W.Frag} {mg : Str → Option Value} {h : Heap} (X : K.In h) (G : h.Ns mainGlobals mg) (e : excAllB K = true) : ExcAll K mg := by
  unfold excAllB at e
  simp only [Bool.and_eq_true, List.all_eq_true, decide_eq_true_eq] at e
  obtain ⟨e1, e2, e3, e4⟩ := e
  have g : ∀ x ∈ hasteS :: ten, mg x = some (.ref (He.ga K x)) := fun x hx => He.glo_ok X G (e1 x hx)
  have gt : ∀ x ∈ ten, mg x = some (.ref (He.ga K x)) := fun x hx => g x (List.mem_cons_of_mem _ hx)
  have u : ∀ {x : Str} {C D : Addr}, mg x = some (.ref C) → mg x = some (.ref D) → C = D := fun a b => by rw [a] at b; cases b; rfl
  refine ⟨fun x hx => ⟨_, g x hx⟩, fun x hx C hC => ?_, fun x hx y hy C D hC hD => ?_, fun x hx C hC => ?_, fun y hy D hD => ?_, e4, fun x hx C D hC hD => ?_⟩
  · rw [u hC (gt x hx)]; exact kxB_ok (e2 x hx).1
  · rw [u hC (gt x hx), u hD (g y hy)]; exact (e2 x hx).2.1 y hy
  · rw [u hC (gt x hx)]; exact (e2 x hx).2.2.1
  · rw [u hD (g y hy)]; exact e3 y hy
  · rw [u hC (gt x hx), u hD (g hasteS List.mem_cons_self)]; exact (e2 x hx).2.2.2
def rIsX (K : PySem.W.Frag) : List V → Hp → VK → Prop := fun xs H Q => ∃ (x c : V) (u : Value) (b : Bool), xs = [x, c] ∧ ClsV c u ∧
  ((∃ t, TyX K H x t ∧ PySem.W.kitOne K t u = some b) ∨ ∃ (a C : Addr) (d : Option Addr), x = .ref a ∧ H a = some (exk a C d) ∧ KX K C ∧ (∀ dd, d = some dd → ∃ fs, H dd = some (.xd fs)) ∧ PySem.W.kitOne K (.ref C) u = some b) ∧ Q (.bl b) H
theorem call_isX {X : Cx} : CallR X (.builtin "isinstance") (rIsX X.K) := by
  intro pins s σ H xs us Q I r h
  obtain ⟨x, c, u, b, rfl, k, hx, q⟩ := h
  rcases hx with ⟨t, ty, e⟩ | ⟨a, C, d, rfl, ha, kx, hd, e⟩
  · exact call_isi pins s σ H _ us Q I r ⟨x, c, t, u, b, rfl, k, ty, e, q⟩
  · obtain ⟨u1, u2, rfl, r1, r2⟩ := vals2 r
    have e2 := ClsV.eq k r2
    subst e2
    cases r1
    obtain ⟨⟨oe, vs, g1, g2, g3, g4⟩, _⟩ := I.hok a _ ha
    have at_ : ∃ od, PySem.W.InstAt s.heap a oe C od := by
      cases d with
      | none => exact ⟨none, g1, g2, by unfold PySem.W.notCls; rw [g4], by rw [g3]; trivial⟩
      | some dd =>
        obtain ⟨fs, hf⟩ := hd dd rfl
        obtain ⟨mA, ⟨o, es, ep, k1, _⟩, _⟩ := I.hok dd _ hf
        exact ⟨some o, g1, g2, by unfold PySem.W.notCls; rw [g4], by rw [g3]; exact k1⟩
    obtain ⟨od, at_⟩ := at_
    have Z := PySem.W.kitx_exc (x := a) (ox := oe) (od := od) kx.cl kx.ga kx.gt kx.sb kx.cc kx.sp kx.tk kx.mo
    exact PySem.W.kia_one Z I.kIn at_ e (by intro z; cases z) fun tk => ⟨.bl b, H, I.tok tk, rfl, q⟩
def eIsE (x : Str) (f : EF) : EF := fun env L => (f env L).bind fun w L1 => match w with
  | .exc c _ => if c ∈ ten then .ok (.d (.bool (isErr c x || decide (x = "ValueError")))) L1 else .stuck
  | .d .none => .ok (.d (.bool false)) L1
  | _ => .stuck
section
variable {X : Cx} {Wx : WX} {k : Nat}
theorem rp_excd {K : PySem.W.Frag} {mg : Str → Option Value} {H : Hp} {P : List Addr} {al : List Addr} {v : V} {c : Str} {g : Option PyData} (r : Rp K mg (mask H P) al v (.exc c g)) : ∃ (a C : Addr) (d : Option Addr), v = .ref a ∧ H a = some (exk a C d) ∧ mg c = some (.ref C) ∧ ∀ dd, d = some dd → ∃ fs, H dd = some (.xd fs) := by
  cases r with
  | @exc a C _ _ d h1 h2 =>
    obtain ⟨C', q1, q2, q3⟩ := h2
    cases q2
    refine ⟨a, C, d, rfl, (of_mask h1).2, q1, fun dd e => ?_⟩
    cases g with
    | none => rw [q3] at e; cases e
    | some x =>
      obtain ⟨dd', v, e1, e2, _⟩ := q3
      rw [e1] at e
      cases e
      exact ⟨_, (of_mask e2).2⟩
theorem se_isE {y : Str} {p q pos : Pos} {e : Expr} {f : EF} (E : ExcAll X.K X.mg) (hg : Gl X "isinstance") (hm : X.mg "isinstance" = none) (ha : SE X Wx e f) (hy : y ∈ hasteS :: ten := by decide) (hg2 : Gl X y := by rfl) (hd2 : (y == ("__debug__" : Str)) = false := by decide)
    (he : starEach (e :: [.Name y q]) X.env = (false, eval e X.env) :: starEach [.Name y q] X.env := by rfl) : SE X Wx (.Call (.Name "isinstance" p) [e, .Name y q] [] pos) (eIsE y f) := by
  obtain ⟨D, hD⟩ := E.at_ y hy
  have nv : ¬ y = ("ValueError" : Str) := by
    intro z
    rw [z] at hy
    exact absurd hy (by decide)
  refine PE.imp (pe_callB call_isX hg hm (by decide +kernel) (pa_cons ha (pa_cons (pe_glob (v := .ref D) hg2 hD rfl hd2) pa_nil) he) (by decide) (by decide) he rfl) ?_
  rintro σ H Q ⟨env, L, al, T', c, h⟩
  refine rseq (R := RV X) c h fun v H1 w L1 al1 c1 s1 r1 q1 => ?_
  split at q1
  · rename_i cn g
    split at q1
    · rename_i hc
      obtain ⟨a, C, d, rfl, ea, ec, ed⟩ := rp_excd r1
      have : (isErr cn y || decide (y = ("ValueError" : Str))) = isErr cn y := by rw [decide_eq_false nv, Bool.or_false]
      rw [this] at q1
      exact ⟨.ref a, .ref D, .ref D, isErr cn y, rfl, .own D, .inr ⟨a, C, d, rfl, ea, E.kx cn hc C ec, ed, E.ko cn hc y hy C D ec hD⟩, gok c1.rel q1 (.d (.bl _))⟩
    · exact q1.elim
  · have : v = .non := by
      cases r1 with
      | d r => cases r; rfl
    subst this
    exact ⟨.non, .ref D, .ref D, false, rfl, .own D, .inl ⟨_, .base .non, E.kn y hy D hD⟩, gok c1.rel q1 (.d (.bl _))⟩
  · exact q1.elim
theorem se_isV {p q pos : Pos} {e : Expr} {f : EF} (E : ExcAll X.K X.mg) (hg : Gl X "isinstance") (hm : X.mg "isinstance" = none) (hm2 : X.mg "ValueError" = none) (ha : SE X Wx e f) (hg2 : Gl X "ValueError" := by rfl)
    (he : starEach (e :: [.Name "ValueError" q]) X.env = (false, eval e X.env) :: starEach [.Name "ValueError" q] X.env := by rfl) : SE X Wx (.Call (.Name "isinstance" p) [e, .Name "ValueError" q] [] pos) (eIsE "ValueError" f) := by
  refine PE.imp (pe_callB call_isX hg hm (by decide +kernel) (pa_cons ha (pa_cons (pe_bltn (v := .ty "ValueError") hg2 hm2 (by decide +kernel) rfl (by decide) (by decide)) pa_nil) he) (by decide) (by decide) he rfl) ?_
  rintro σ H Q ⟨env, L, al, T', c, h⟩
  refine rseq (R := RV X) c h fun v H1 w L1 al1 c1 s1 r1 q1 => ?_
  split at q1
  · rename_i cn g
    split at q1
    · rename_i hc
      obtain ⟨a, C, d, rfl, ea, ec, ed⟩ := rp_excd r1
      simp only [decide_true, Bool.or_true] at q1
      exact ⟨.ref a, .ty "ValueError", .type "ValueError", true, rfl, .ty _, .inr ⟨a, C, d, rfl, ea, E.kx cn hc C ec, ed, E.kv cn hc C ec⟩, gok c1.rel q1 (.d (.bl _))⟩
    · exact q1.elim
  · have : v = .non := by
      cases r1 with
      | d r => cases r; rfl
    subst this
    exact ⟨.non, .ty "ValueError", .type "ValueError", false, rfl, .ty _, .inl ⟨_, .base .non, E.nv⟩, gok c1.rel q1 (.d (.bl _))⟩
  · exact q1.elim
def sTry (i j : Nat) (f : SFn) : SFn := fun env L => match f env L with
  | .exc c g env1 L1 => if c ∈ ten ∧ i < env1.length then .nx ((env1.set j (some (.exc c g))).set i none) L1 else .stuck
  | o => o
end
end L2.HW
namespace L2.HW
open PySem PySem.Spec PyProof.Rows
section
variable {X : Cx} {Wx : WX} {k : Nat}
theorem conf_none {K : PySem.W.Frag} {mg : Str → Option Value} {σ : St} {H : Hp} {env : En} {L : LH} {al T : List Addr} (c : Conf K mg σ H env L al T) (i : Nat) : Conf K mg (σ.set i none) H (env.set i none) L al T :=
  ⟨c.rel, by simpa using c.len, fun j u e => by
    by_cases h : i = j
    · subst h
      by_cases q : i < env.length
      · rw [List.getElem?_set_self q] at e; cases e
      · rw [List.getElem?_eq_none (by simpa using q)] at e; cases e
    · rw [List.getElem?_set_ne h] at e
      obtain ⟨v, h1, h2⟩ := c.slot j u e
      exact ⟨v, by rw [List.getElem?_set_ne h]; exact h1, h2⟩⟩
theorem ss_try {n y : Str} {i j : Nat} {body : List Stmt} {np p1 p2 p3 pos pos' : Pos} {fb : SFn} (c : CtxF X Wx k) (E : ExcAll X.K X.mg) (hij : i ≠ j)
    (hb : ∀ (W : WX) (pn : List (Addr × Obj)) (xe : Value → Shared → Prop), CtxF (X.tr pn xe) W k → SB (X.tr pn xe) W body fb)
    (hi : X.N[i]? = some n := by rfl) (hj : X.N[j]? = some y := by rfl) (hln : X.env.kindOf n = some .local := by rfl) (hv : Vis X.env.scope n := by exact Or.inl rfl) (hy : Loc X.env.scope y := by first | exact Or.inl rfl | exact Or.inr rfl)
    (hst : X.stack = X.env :: X.outer := by rfl) (hf : X.env.frame = some X.env.locals := by rfl) (hex : X.ex = [] := by rfl) (hgh : Gl X hasteS := by rfl)
    (hd : (n == ("__debug__" : Str)) = false := by decide) (hcd : (n == ("__classdict__" : Str)) = false := by decide) (hsw : swapsWith (.Name n p2) (some (.Name y p1)) p3.line X.env = pure false := by rfl)
    (hfy : X.fn y = true ∨ X.env.scope.names.lookup y = some .local := by first | exact .inl rfl | exact .inr rfl) :
    SS X Wx (.Try body [.ExceptHandler (some (.Name hasteS np)) (some n) [.Assign [.Name y p1] (.Name n p2) p3] pos'] [] [] pos) (sTry i j fb) := by
  obtain ⟨D, hD⟩ := E.at_ hasteS List.mem_cons_self
  refine PS.imp (ps_try_keep (c := .ref D) (i := i) (tb := fun W => SRdg (X.tr X.pn X.xe) W fb) (ts := fun a cls d => fun D σ H => ∃ v, σ[i]? = some (some v) ∧ D.nx (σ.set j (some v)) H) hst hf hex c.nd hi hln ⟨hgh, by decide, .inl hD⟩ (fun W pn xe tk pa => ?_) (fun a oe cls d pn hz hv' => ?_)) ?_
  · have := hb W pn xe ⟨⟨c.gd, c.rm, tk, c.cm, c.nd⟩, pa⟩
    exact this
  · refine PSs.imp (pss_one (ps_set (X := X.suite a ((a, oe) :: pn)) c.nd hj hy (pe_var hi hv hd hcd) hsw hfy)) ?_
    rintro D σ H ⟨v, h1, h2⟩
    exact ⟨v, h1, h2⟩
  · rintro D2 σ H ⟨env, L, al, T, cf, h⟩
    refine ⟨env, L, al, T, cf, ?_⟩
    unfold sTry at h
    revert h
    generalize fb env L = r
    intro h
    cases r with
    | nx env1 L1 => exact h
    | rt w L1 => exact h
    | rf o L1 => exact h
    | bk env1 L1 => exact h
    | ct env1 L1 => exact h
    | stuck => exact h
    | exc cn g env1 L1 =>
      simp only at h
      split at h
      · rename_i hcl
        obtain ⟨hc, hlt⟩ := hcl
        intro cls d σ' H' al' s cf' ex
        obtain ⟨C, q1, q2, q3⟩ := ex
        subst q2
        refine ⟨E.em cn hc C D q1 hD, C, rfl, fun a ha => ?_⟩
        have hlen := cf'.len
        have hil : i < σ'.length := by omega
        · refine ⟨.ref a, by rw [List.getElem?_set_self hil], fun _ => ?_⟩
          have hal := s.rel.alloc (o := exk a C d) ha
          have na := s.rel.fresh ha
          have s2 := Stp.trans cf.rel.len s hal
          have cf2 := cf'.stp hal
          have ex2 : ExR X.mg (mask (upd H' a (exk a C d)) (al' ++ T)) cn g (.ref C) d := ExR.le hal.le ⟨C, q1, rfl, q3⟩
          have rp : Rp X.K X.mg (mask (upd H' a (exk a C d)) (al' ++ T)) al' (.ref a) (.exc cn g) := .exc (mask_of (by simp [na.1, na.2]) upd_same) ex2
          refine h _ _ al' s2 ?_
          have e1 := conf_none (cf2.put (i := j) rp) i
          have e2 : (((σ'.set i (some (.ref a))).set j (some (.ref a))).set i none) = ((σ'.set j (some (.ref a))).set i none) := by
            rw [List.set_comm _ _ hij, List.set_set]
          rw [e2]
          exact e1
      · exact h.elim
def zipV (ws us : List Va) : List Va := List.zipWith (fun w u => mkTup [w, u]) ws us
def srcZ (fs : En → LH → Res (List Va)) : Srcf := fun env L => (fs env L).bind fun ws L1 => match ws with
  | [w, u] => match srcOf w L1, srcOf u L1 with
    | some (xs, none), some (ys, none) => match w, u with
      | .d (.list _), .d (.list _) => .ok (zipV xs ys, none) L1
      | .d (.tuple _), .d (.tuple _) => .ok (zipV xs ys, none) L1
      | _, _ => .stuck
    | _, _ => .stuck
  | _ => .stuck
theorem zipV_at {ws us : List Va} {i : Nat} {x : Va} (e : (zipV ws us)[i]? = some x) : ∃ w u, ws[i]? = some w ∧ us[i]? = some u ∧ x = mkTup [w, u] := by
  unfold zipV at e
  rw [List.getElem?_zipWith] at e
  cases e1 : ws[i]? with
  | none => rw [e1] at e; simp at e
  | some w =>
    cases e2 : us[i]? with
    | none => rw [e1, e2] at e; simp at e
    | some u =>
      rw [e1, e2] at e
      simp at e
      exact ⟨w, u, rfl, rfl, e.symm⟩
theorem wlk_zip {K : PySem.W.Frag} {mg : Str → Option Value} {H : Hp} {al T : List Addr} {L : LH} {sq : Hp → Addr → List V → Prop} {J : Addr → Addr → It} {a b : Addr} {vs us : List V} {ws xs : List Va}
    (hJ : J = fun a b => ⟨fun i H => ∃ xs ys x y, sq H a xs ∧ sq H b ys ∧ xs[i]? = some x ∧ ys[i]? = some y, fun i H v H' => ∃ T x y, v = V.ref T ∧ H T = none ∧ H' = upd H T (.tup [x, y]) ∧ (∀ xs, sq H a xs → xs[i]? = some x) ∧ ∀ ys, sq H b ys → ys[i]? = some y, fun i H => ∃ xs ys, sq H a xs ∧ sq H b ys ∧ (xs.length ≤ i ∨ ys.length ≤ i)⟩)
    (hs : ∀ H1 al1 T1 L1, Stp K mg H al T L H1 al1 T1 L1 → sq H1 a vs) (hu : ∀ H1 al1 T1 L1, Stp K mg H al T L H1 al1 T1 L1 → sq H1 b us) (r : Rps K mg (mask H (al ++ T)) al vs ws) (q : Rps K mg (mask H (al ++ T)) al us xs) : Wlk K mg H al T L (J a b) (zipV ws xs) := by
  subst hJ
  intro H1 al1 T1 L1 s
  have h1 := hs H1 al1 T1 L1 s
  have h2 := hu H1 al1 T1 L1 s
  have r1 := s.rps r
  have q1 := s.rps q
  refine ⟨⟨vs, us, h1, h2, ?_⟩, fun i w e => ?_⟩
  · have e1 := Paired.length r1
    have e2 := Paired.length q1
    have : (zipV ws xs).length = min ws.length xs.length := by unfold zipV; simp
    omega
  · obtain ⟨x, y, ex, ey, rfl⟩ := zipV_at e
    obtain ⟨v, e2, p2⟩ := rps_get r1 ex
    obtain ⟨v', e3, p3⟩ := rps_get q1 ey
    refine ⟨⟨vs, us, v, v', h1, h2, e2, e3⟩, fun z H2 yy => ?_⟩
    obtain ⟨p, x', y', rfl, hp, rfl, y1, y2⟩ := yy
    have k1 := y1 vs h1
    have k2 := y2 us h2
    rw [e2] at k1; cases k1
    rw [e3] at k2; cases k2
    have st := s.rel.alloc (o := .tup [v, v']) hp
    obtain ⟨n1, n2⟩ := s.rel.fresh hp
    exact ⟨st, rp_mkTup (mask_of (by simp [n1, n2]) upd_same) (.cons (st.rp p2) (.cons (st.rp p3) .nil))⟩
theorem si_zip {e e2 : Expr} {fs : En → LH → Res (List Va)} {p pos tpos : Pos} {elts : List Expr} {kk : Nat} (hg : Gl X "zip") (hm : X.mg "zip" = none) (ha : SA X Wx [e, e2] fs) (hs : starEach [e, e2] X.env = (false, eval e X.env) :: starEach [e2] X.env := by rfl)
    (hpl : ((backTo pos (starEach [e2] X.env)).any fun x => x.1) = false := by rfl) :
    SI X Wx (.Tuple elts kk tpos) (.Call (.Name "zip" p) [e, e2] [] pos) (srcZ fs) := by
  refine PI.imp (RZ.pi_zipA hg hm ha hs hpl) ?_
  rintro σ H R ⟨env, L, al, T, c, q⟩
  unfold srcZ at q
  refine iseq (R := RVs X) c q fun vs H1 ws L1 al1 c1 s1 r1 q1 => ?_
  split at q1
  · rename_i w u
    split at q1
    · rename_i xs ys e1 e2
      cases r1 with
      | cons rv r1 =>
        cases r1 with
        | cons ru r1 =>
          cases r1
          split at q1
          · cases rv with
            | d rv =>
              cases rv with
              | lst m1 d1 =>
                cases ru with
                | d ru =>
                  cases ru with
                  | lst m2 d2 =>
                    cases e1
                    cases e2
                    refine ⟨_, _, _, _, rfl, .inl ⟨SqL.of (of_mask m1).2, SqL.of (of_mask m2).2, q1 _ H1 al1 (Stp.refl c1.rel) ?_⟩⟩
                    exact wlk_zip (sq := fun H a xs => SqL X.K H a xs) (J := fun a b => Itz X.K a b) rfl (fun H1 al1 T1 L1 s => SqL.of (of_mask (s.le _ _ m1)).2) (fun H1 al1 T1 L1 s => SqL.of (of_mask (s.le _ _ m2)).2) (all_dq d1) (all_dq d2)
          · cases rv with
            | d rv =>
              cases rv with
              | tup m1 d1 =>
                cases ru with
                | d ru =>
                  cases ru with
                  | tup m2 d2 =>
                    cases e1
                    cases e2
                    refine ⟨_, _, _, _, rfl, .inr ⟨SqT.of (of_mask m1).2, SqT.of (of_mask m2).2, q1 _ H1 al1 (Stp.refl c1.rel) ?_⟩⟩
                    exact wlk_zip (sq := fun H a xs => SqT X.K H a xs) (J := fun a b => RZ.ItzT X.K a b) rfl (fun H1 al1 T1 L1 s => SqT.of (of_mask (s.le _ _ m1)).2) (fun H1 al1 T1 L1 s => SqT.of (of_mask (s.le _ _ m2)).2) (all_dq d1) (all_dq d2)
          · exact q1.elim
    · exact q1.elim
  · exact q1.elim
end
end L2.HW
namespace L2.HW
open PySem PySem.Spec PyProof.Rows
def hookE (n : Nat) (fa : List He.Fa) (fn : List He.DefD) : PySem.W.Hook where
  α := He.AlD × Bool
  obs s := (He.obsDG n fa fn s.heap.get?, excAllB (He.frG s.heap.get? (He.asD s.heap.get? n)))
  val _ := (He.valD fn, true)
  says _ h := ∃ K : PySem.W.Frag, K.In h ∧ He.SaysD fa fn K ∧ excAllB K = true
  of _ s e := ⟨He.frG s.heap.get? (He.asD s.heap.get? n), He.frG_in, congrArg Prod.fst e, congrArg Prod.snd e⟩
  keeps _ _ _ h k := let ⟨K, k1, k2, k3⟩ := h; ⟨K, fun b o e => k b o (k1 b o e), k2, k3⟩
def obE (n : Nat) (fa : List He.Fa) (fn : List He.DefD) (s : PySem.W.SharedT) : He.AlD × Bool :=
  (He.obsDG n fa fn (HandSHeadRun.getT s), excAllB (He.frG (HandSHeadRun.getT s) (He.asD (HandSHeadRun.getT s) n)))
theorem obE_eq {n : Nat} {fa : List He.Fa} {fn : List He.DefD} (s : PySem.W.SharedT) : obE n fa fn s = (hookE n fa fn).obs s.abs := by
  have : HandSHeadRun.getT s = s.abs.heap.get? := funext (HandSHeadRun.getT_eq s)
  unfold obE
  rw [this]
  rfl
end L2.HW
namespace L2.HW
open PySem PySem.Spec PyProof.Rows
@[simp] theorem u_eVar (i : Nat) env L : eVar i env L = (match env[i]? with
  | some (some w) => .ok w L
  | _ => .stuck) := by first | exact (rfl) | (unfold eVar; exact (rfl))
@[simp] theorem u_eC (x : PyData) x0 L : eC x x0 L = (.ok (.d x) L) := by first | exact (rfl) | (unfold eC; exact (rfl))
@[simp] theorem u_eOp (g : Op2) (a b : EF) env L : eOp g a b env L = ((a env L).bind fun w L1 => (b env L1).bind fun u L2 => g w u L2) := by first | exact (rfl) | (unfold eOp; exact (rfl))
@[simp] theorem u_tVal (f : EF) env L : tVal f env L = ((f env L).bind fun w L1 => match w with
  | .d (.bool b) => .ok b L1
  | _ => .stuck) := by first | exact (rfl) | (unfold tVal; exact (rfl))
@[simp] theorem u_tAndF (f g : En → LH → Res Bool) env L : tAndF f g env L = ((f env L).bind fun b L1 => if b then g env L1 else .ok false L1) := by first | exact (rfl) | (unfold tAndF; exact (rfl))
@[simp] theorem u_tOrF (f g : En → LH → Res Bool) env L : tOrF f g env L = ((f env L).bind fun b L1 => if b then .ok true L1 else g env L1) := by first | exact (rfl) | (unfold tOrF; exact (rfl))
@[simp] theorem u_tNotF (f : En → LH → Res Bool) env L : tNotF f env L = ((f env L).bind fun b L1 => .ok (!b) L1) := by first | exact (rfl) | (unfold tNotF; exact (rfl))
@[simp] theorem u_eIf (t : En → LH → Res Bool) (f g : EF) env L : eIf t f g env L = ((t env L).bind fun b L1 => if b then f env L1 else g env L1) := by first | exact (rfl) | (unfold eIf; exact (rfl))
@[simp] theorem u_eAnd (f g : EF) env L : eAnd f g env L = ((tVal f env L).bind fun b L1 => if b then g env L1 else .ok (.d (.bool false)) L1) := by first | exact (rfl) | (unfold eAnd; exact (rfl))
@[simp] theorem u_eOr (f g : EF) env L : eOr f g env L = ((tVal f env L).bind fun b L1 => if b then .ok (.d (.bool true)) L1 else g env L1) := by first | exact (rfl) | (unfold eOr; exact (rfl))
@[simp] theorem u_eNot (f : EF) env L : eNot f env L = ((tVal f env L).bind fun b L1 => .ok (.d (.bool (!b))) L1) := by first | exact (rfl) | (unfold eNot; exact (rfl))
@[simp] theorem u_aNil x0 L : aNil x0 L = (.ok [] L) := by first | exact (rfl) | (unfold aNil; exact (rfl))
@[simp] theorem u_aCons (f : EF) (g : En → LH → Res (List Va)) env L : aCons f g env L = ((f env L).bind fun w L1 => (g env L1).bind fun ws L2 => .ok (w :: ws) L2) := by first | exact (rfl) | (unfold aCons; exact (rfl))
@[simp] theorem u_eDat (g : En → LH → Res Ob) env L : eDat g env L = ((g env L).bind fun o L1 => match o.va with
  | some w => .ok w L1
  | none => .stuck) := by first | exact (rfl) | (unfold eDat; exact (rfl))
@[simp] theorem u_eNew (g : En → LH → Res Ob) env L : eNew g env L = ((g env L).bind fun o L1 => .ok (.loc L1.length) (L1 ++ [some o])) := by first | exact (rfl) | (unfold eNew; exact (rfl))
@[simp] theorem u_opAdd w u L : opAdd w u L = (match w, u with
  | .d (.int i), .d (.int j) => .ok (.d (.int (i + j))) L
  | .d (.str a), .d (.str b) => if a.length + b.length ≤ sizeLine then .ok (.d (.str (a ++ b))) L else .stuck
  | .d (.tuple xs), .d (.tuple ys) => if xs.length + ys.length ≤ sizeLine then .ok (.d (.tuple (xs ++ ys))) L else .stuck
  | w, u => match w.items L, u.items L with
    | some ws, some us => if ws.length + us.length ≤ sizeLine then match datas ws, datas us with
      | some xs, some ys => .ok (.d (.list (xs ++ ys))) L
      | _, _ => .stuck
      else .stuck
    | _, _ => .stuck) := by first | exact (rfl) | (unfold opAdd; exact (rfl))
@[simp] theorem u_opI (g : Int → Int → Int) w u L : opI g w u L = (match w, u with
  | .d (.int i), .d (.int j) => .ok (.d (.int (g i j))) L
  | _, _ => .stuck) := by first | exact (rfl) | (unfold opI; exact (rfl))
@[simp] theorem u_opIC (C : Int → Int → Bool) (g : Int → Int → Int) w u L : opIC C g w u L = (match w, u with
  | .d (.int i), .d (.int j) => if C i j then .ok (.d (.int (g i j))) L else .stuck
  | _, _ => .stuck) := by first | exact (rfl) | (unfold opIC; exact (rfl))
@[simp] theorem u_opMul w u L : opMul w u L = (match w, u with
  | .d (.int i), .d (.int j) => if mulC i j then .ok (.d (.int (i * j))) L else .stuck
  | .d (.tuple xs), .d (.int k) => if xs ≠ [] ∧ 2 ≤ k ∧ k ≤ 1000 ∧ xs.length ≤ 1000 then .ok (.d (.tuple (rep k.toNat xs))) L else .stuck
  | w, .d (.int k) => match w.items L with
    | some ws => if -(2 ^ 63) ≤ k ∧ k < 2 ^ 63 ∧ ws.length * k.toNat ≤ sizeLine then match datas ws with
      | some xs => .ok (.d (.list (rep k.toNat xs))) L
      | none => .stuck
      else .stuck
    | none => .stuck
  | _, _ => .stuck) := by first | exact (rfl) | (unfold opMul; exact (rfl))
@[simp] theorem u_opC (g : Int → Int → Bool) w u L : opC g w u L = (match w, u with
  | .d (.int i), .d (.int j) => .ok (.d (.bool (g i j))) L
  | _, _ => .stuck) := by first | exact (rfl) | (unfold opC; exact (rfl))
@[simp] theorem u_opLt w u L : opLt w u L = (match w, u with
  | .d (.int i), .d (.int j) => .ok (.d (.bool (decide (i < j)))) L
  | .d (.tuple xs), .d (.tuple ys) => match intsOf xs, intsOf ys with
    | some ns, some ms => .ok (.d (.bool (HT.lexLt ns ms))) L
    | _, _ => .stuck
  | _, _ => .stuck) := by first | exact (rfl) | (unfold opLt; exact (rfl))
@[simp] theorem u_opEq w u L : opEq w u L = (match w.data L, u.data L with
  | some x, some y => if cmpOk x y then .ok (.d (.bool (PyData.eqv x y))) L else .stuck
  | _, _ => .stuck) := by first | exact (rfl) | (unfold opEq; exact (rfl))
@[simp] theorem u_opNe w u L : opNe w u L = (match w.data L, u.data L with
  | some x, some y => if cmpOk x y then .ok (.d (.bool (!PyData.eqv x y))) L else .stuck
  | _, _ => .stuck) := by first | exact (rfl) | (unfold opNe; exact (rfl))
@[simp] theorem u_opIsN w u L : opIsN w u L = (match u with
  | .d .none => .ok (.d (.bool w.isN)) L
  | _ => .stuck) := by first | exact (rfl) | (unfold opIsN; exact (rfl))
@[simp] theorem u_opNotN w u L : opNotN w u L = (match u with
  | .d .none => .ok (.d (.bool (!w.isN))) L
  | _ => .stuck) := by first | exact (rfl) | (unfold opNotN; exact (rfl))
@[simp] theorem u_opIsB w u L : opIsB w u L = (match w, u with
  | .d (.bool a), .d (.bool b) => .ok (.d (.bool (decide (a = b)))) L
  | _, _ => .stuck) := by first | exact (rfl) | (unfold opIsB; exact (rfl))
@[simp] theorem u_opNotB w u L : opNotB w u L = (match w, u with
  | .d (.bool a), .d (.bool b) => .ok (.d (.bool (!decide (a = b)))) L
  | _, _ => .stuck) := by first | exact (rfl) | (unfold opNotB; exact (rfl))
@[simp] theorem u_eTup (fs : En → LH → Res (List Va)) env L : eTup fs env L = ((fs env L).bind fun ws L1 => if ws.length ≤ sizeLine then .ok (mkTup ws) L1 else .stuck) := by first | exact (rfl) | (unfold eTup; exact (rfl))
@[simp] theorem u_fLst (fs : En → LH → Res (List Va)) env L : fLst fs env L = ((fs env L).bind fun ws L1 => if ws.length ≤ sizeLine then .ok (.lst ws) L1 else .stuck) := by first | exact (rfl) | (unfold fLst; exact (rfl))
@[simp] theorem u_aStar (f : EF) (g : En → LH → Res (List Va)) env L : aStar f g env L = ((f env L).bind fun w L1 => match w.seq L1 with
  | some us => (g env L1).bind fun ws L2 => .ok (us ++ ws) L2
  | none => .stuck) := by first | exact (rfl) | (unfold aStar; exact (rfl))
@[simp] theorem u_opIx w u L : opIx w u L = (match w.dget L u with
  | some (some x) => .ok x L
  | some none => .stuck
  | none => match u with
    | .d (.int i) => match w.seq L with
      | some ws => match atI ws i with
        | some x => .ok x L
        | none => .stuck
      | none => match w with
        | .d (.str z) => if z.length ≤ sizeLine then match atI z.cps.toList i with
          | some c => .ok (.d (.str ⟨#[c]⟩)) L
          | none => .stuck
          else .stuck
        | _ => .stuck
    | _ => .stuck) := by first | exact (rfl) | (unfold opIx; exact (rfl))
@[simp] theorem u_opSl (w : Va) (lo hi : Option Int) (L : LH) : opSl w lo hi L = match w with
  | .d (.tuple xs) => .ok (.d (.tuple (cutA xs lo hi))) L
  | .d (.str z) => if z.length ≤ sizeLine then .ok (.d (.str (cutS z lo hi))) L else .stuck
  | w => match w.items L with
    | some ws => match datas (cutA ws lo hi) with
      | some xs => .ok (.d (.list xs)) L
      | none => .stuck
    | none => .stuck := by unfold opSl; exact (rfl)
@[simp] theorem u_eSl (f : EF) (p q : En → LH → Res (Option Int)) env L : eSl f p q env L = ((f env L).bind fun w L1 => (p env L1).bind fun lo L2 => (q env L2).bind fun hi L3 => opSl w lo hi L3) := by first | exact (rfl) | (unfold eSl; exact (rfl))
@[simp] theorem u_fSl (f : EF) (p q : En → LH → Res (Option Int)) env L : fSl f p q env L = ((f env L).bind fun w L1 => (p env L1).bind fun lo L2 => (q env L2).bind fun hi L3 => match w.items L3 with
  | some ws => .ok (.lst (cutA ws lo hi)) L3
  | none => .stuck) := by first | exact (rfl) | (unfold fSl; exact (rfl))
@[simp] theorem u_fCat (f g : EF) env L : fCat f g env L = ((f env L).bind fun w L1 => (g env L1).bind fun u L2 => match w.items L2, u.items L2 with
  | some ws, some us => if ws.length + us.length ≤ sizeLine then .ok (.lst (ws ++ us)) L2 else .stuck
  | _, _ => .stuck) := by first | exact (rfl) | (unfold fCat; exact (rfl))
@[simp] theorem u_fRep (f g : EF) env L : fRep f g env L = ((f env L).bind fun w L1 => (g env L1).bind fun u L2 => match w.items L2, u with
  | some ws, .d (.int k) => if -(2 ^ 63) ≤ k ∧ k < 2 ^ 63 ∧ ws.length * k.toNat ≤ sizeLine then .ok (.lst (rep k.toNat ws)) L2 else .stuck
  | _, _ => .stuck) := by first | exact (rfl) | (unfold fRep; exact (rfl))
@[simp] theorem u_opIn (neg : Bool) w u L : opIn neg w u L = (match u.dget L w with
  | some o => .ok (.d (.bool (if neg then !o.isSome else o.isSome))) L
  | none => match u, w with
    | .d (.str z), .d (.str s) => match s.cps.toList with
      | [c] => .ok (.d (.bool (if neg then !decide (c ∈ z.cps.toList) else decide (c ∈ z.cps.toList)))) L
      | _ => .stuck
    | .d (.tuple ds), .d x => if flatD x && ds.all flatD then .ok (.d (.bool (if neg then !(ds.any fun z => PyData.eqv z x) else ds.any fun z => PyData.eqv z x))) L else .stuck
    | u, w => match u.data L, w.data L with
      | some (.list ds), some x => if SeqAt.shaped x && SeqAt.shaped (.list ds) then .ok (.d (.bool (if neg then !(ds.any fun z => PyData.eqv z x) else ds.any fun z => PyData.eqv z x))) L else .stuck
      | _, _ => .stuck) := by first | exact (rfl) | (unfold opIn; exact (rfl))
@[simp] theorem u_pNone x0 L : pNone x0 L = (.ok none L) := by first | exact (rfl) | (unfold pNone; exact (rfl))
@[simp] theorem u_pSome (f : EF) env L : pSome f env L = ((f env L).bind fun w L1 => match w with
  | .d (.int i) => .ok (some i) L1
  | _ => .stuck) := by first | exact (rfl) | (unfold pSome; exact (rfl))
@[simp] theorem u_eCallB (g : List Va → LH → Res Va) (fs : En → LH → Res (List Va)) env L : eCallB g fs env L = ((fs env L).bind g) := by first | exact (rfl) | (unfold eCallB; exact (rfl))
@[simp] theorem u_fCallB (g : List Va → LH → Res Ob) (fs : En → LH → Res (List Va)) env L : fCallB g fs env L = ((fs env L).bind g) := by first | exact (rfl) | (unfold fCallB; exact (rfl))
@[simp] theorem u_cLen ws L : cLen ws L = (match ws with
  | [w] => match w with
    | .d (.str z) => if z.length ≤ sizeLine then .ok (.d (.int z.length)) L else .stuck
    | .dct ks => .ok (.d (.int ks.length)) L
    | w => match w.seq L with
      | some us => .ok (.d (.int us.length)) L
      | none => match w with
        | .loc n => match L[n]? with
          | some (some (.di ks)) => .ok (.d (.int ks.length)) L
          | _ => .stuck
        | _ => .stuck
  | _ => .stuck) := by first | exact (rfl) | (unfold cLen; exact (rfl))
@[simp] theorem u_eIsi (T : String) (f : EF) env L : eIsi T f env L = ((f env L).bind fun w L1 => match w.kind L1 with
  | some k => .ok (.d (.bool (isKind k T))) L1
  | none => .stuck) := by first | exact (rfl) | (unfold eIsi; exact (rfl))
@[simp] theorem u_cMin2 ws L : cMin2 ws L = (match ws with
  | [.d (.int i), .d (.int j)] => .ok (.d (.int (if j < i then j else i))) L
  | _ => .stuck) := by first | exact (rfl) | (unfold cMin2; exact (rfl))
@[simp] theorem u_cMax2 ws L : cMax2 ws L = (match ws with
  | [.d (.int i), .d (.int j)] => .ok (.d (.int (if j > i then j else i))) L
  | _ => .stuck) := by first | exact (rfl) | (unfold cMax2; exact (rfl))
@[simp] theorem u_cInt ws L : cInt ws L = (match ws with
  | [.d (.int i)] => .ok (.d (.int i)) L
  | [.d (.bool b)] => .ok (.d (.int (if b then 1 else 0))) L
  | _ => .stuck) := by first | exact (rfl) | (unfold cInt; exact (rfl))
@[simp] theorem u_cStr ws L : cStr ws L = (match ws with
  | [.d (.int i)] => if i.natAbs.log2 < 1920 then .ok (.d (.str (toString i))) L else .stuck
  | _ => .stuck) := by first | exact (rfl) | (unfold cStr; exact (rfl))
@[simp] theorem u_cList ws L : cList ws L = (match ws with
  | [w] => match w.seq L with
    | some us => .ok (.lst us) L
    | none => .stuck
  | _ => .stuck) := by first | exact (rfl) | (unfold cList; exact (rfl))
@[simp] theorem u_cTuple ws L : cTuple ws L = (match ws with
  | [.d (.tuple xs)] => .ok (.d (.tuple xs)) L
  | [w] => match w.items L with
    | some us => .ok (mkTup us) L
    | none => .stuck
  | _ => .stuck) := by first | exact (rfl) | (unfold cTuple; exact (rfl))
@[simp] theorem u_sNil env L : sNil env L = (.nx env L) := by first | exact (rfl) | (unfold sNil; exact (rfl))
@[simp] theorem u_sSeq (f g : SFn) env L : sSeq f g env L = (match f env L with
  | .nx env1 L1 => g env1 L1
  | o => o) := by first | exact (rfl) | (unfold sSeq; exact (rfl))
@[simp] theorem u_sPass : sPass  = sNil := by unfold sPass; exact (rfl)
@[simp] theorem u_sBreak env L : sBreak env L = (.bk env L) := by first | exact (rfl) | (unfold sBreak; exact (rfl))
@[simp] theorem u_sCont env L : sCont env L = (.ct env L) := by first | exact (rfl) | (unfold sCont; exact (rfl))
@[simp] theorem u_sExpr (f : EF) env L : sExpr f env L = ((f env L).then env fun _ L1 => .nx env L1) := by first | exact (rfl) | (unfold sExpr; exact (rfl))
@[simp] theorem u_sRet (f : EF) env L : sRet f env L = ((f env L).then env fun w L1 => .rt w L1) := by first | exact (rfl) | (unfold sRet; exact (rfl))
@[simp] theorem u_sRetN x0 L : sRetN x0 L = (.rt (.d .none) L) := by first | exact (rfl) | (unfold sRetN; exact (rfl))
@[simp] theorem u_sRetF (g : En → LH → Res Ob) env L : sRetF g env L = ((g env L).then env fun o L1 => .rf o L1) := by first | exact (rfl) | (unfold sRetF; exact (rfl))
@[simp] theorem u_sIf (t : En → LH → Res Bool) (f g : SFn) env L : sIf t f g env L = ((t env L).then env fun b L1 => if b then f env L1 else g env L1) := by first | exact (rfl) | (unfold sIf; exact (rfl))
@[simp] theorem u_sSet (i : Nat) (f : EF) env L : sSet i f env L = ((f env L).then env fun w L1 => .nx (env.set i (some w)) L1) := by first | exact (rfl) | (unfold sSet; exact (rfl))
@[simp] theorem u_sAug (i : Nat) (g : Int → Int → Int) (f : EF) env L : sAug i g f env L = (match env[i]? with
  | some (some (.d (.int a))) => (f env L).then env fun w L1 => match w with
    | .d (.int b) => .nx (env.set i (some (.d (.int (g a b))))) L1
    | _ => .stuck
  | _ => .stuck) := by first | exact (rfl) | (unfold sAug; exact (rfl))
@[simp] theorem u_tN (i : Nat) w env L : tN i w env L = (.ok (env.set i (some w)) L) := by first | exact (rfl) | (unfold tN; exact (rfl))
@[simp] theorem u_tgNil ws env L : tgNil ws env L = (match ws with
  | [] => .ok env L
  | _ => .stuck) := by first | exact (rfl) | (unfold tgNil; exact (rfl))
@[simp] theorem u_tgCons (f : Va → En → LH → Res En) (g : List Va → En → LH → Res En) ws env L : tgCons f g ws env L = (match ws with
  | w :: r => (f w env L).bind fun env1 L1 => g r env1 L1
  | [] => .stuck) := by first | exact (rfl) | (unfold tgCons; exact (rfl))
@[simp] theorem u_tTupT (n : Nat) (g : List Va → En → LH → Res En) w env L : tTupT n g w env L = (match w.seq L with
  | some ws => if ws.length = n then g ws env L else .stuck
  | none => .stuck) := by first | exact (rfl) | (unfold tTupT; exact (rfl))
@[simp] theorem u_sAsg (f : EF) (g : Va → En → LH → Res En) env L : sAsg f g env L = ((f env L).then env fun w L1 => match g w env L1 with
  | .ok env1 L2 => .nx env1 L2
  | _ => .stuck) := by first | exact (rfl) | (unfold sAsg; exact (rfl))
@[simp] theorem u_sPar (i j : Nat) (fs : En → LH → Res (List Va)) env L : sPar i j fs env L = ((fs env L).then env fun ws L1 => match ws with
  | [w, u] => .nx ((env.set i (some w)).set j (some u)) L1
  | _ => .stuck) := by first | exact (rfl) | (unfold sPar; exact (rfl))
@[simp] theorem u_sPar3 (i j k : Nat) (fs : En → LH → Res (List Va)) env L : sPar3 i j k fs env L = ((fs env L).then env fun ws L1 => match ws with
  | [w, u, z] => .nx (((env.set i (some w)).set j (some u)).set k (some z)) L1
  | _ => .stuck) := by first | exact (rfl) | (unfold sPar3; exact (rfl))
@[simp] theorem u_tIx (f g : EF) v env L : tIx f g v env L = ((f env L).bind fun w L1 => (g env L1).bind fun u L2 => match w with
  | .loc n => match L2[n]?, u with
    | some (some (.lst ws)), .d (.int i) => match ixN ws.length i with
      | some j => .ok env (L2.set n (some (.lst (ws.set j v))))
      | none => .stuck
    | some (some (.di ks)), .d (.int i) => if ks.length < sizeLine then .ok env (L2.set n (some (.di (aput ks i v)))) else .stuck
    | some (some (.di [])), .d (.tuple xs) => match intsOf xs with
      | some ns => .ok env (L2.set n (some (.dt [(ns, v)])))
      | none => .stuck
    | some (some (.dt ks)), .d (.tuple xs) => match intsOf xs with
      | some ns => if ks.length < sizeLine then .ok env (L2.set n (some (.dt (aput ks ns v)))) else .stuck
      | none => .stuck
    | _, _ => .stuck
  | _ => .stuck) := by first | exact (rfl) | (unfold tIx; exact (rfl))
@[simp] theorem u_srcV (f : EF) env L : srcV f env L = ((f env L).bind fun w L1 => match srcOf w L1 with
  | some p => .ok p L1
  | none => .stuck) := by first | exact (rfl) | (unfold srcV; exact (rfl))
@[simp] theorem u_srcR1 (fs : En → LH → Res (List Va)) env L : srcR1 fs env L = ((fs env L).bind fun ws L1 => match ws with
  | [.d (.int j)] => if -(2 ^ 62) ≤ j ∧ j < 2 ^ 62 then .ok (rngV 0 j.toNat, none) L1 else .stuck
  | _ => .stuck) := by first | exact (rfl) | (unfold srcR1; exact (rfl))
@[simp] theorem u_srcR2 (fs : En → LH → Res (List Va)) env L : srcR2 fs env L = ((fs env L).bind fun ws L1 => match ws with
  | [.d (.int i), .d (.int j)] => if -(2 ^ 62) ≤ i ∧ i < 2 ^ 62 ∧ -(2 ^ 62) ≤ j ∧ j < 2 ^ 62 then .ok (rngV i (j - i).toNat, none) L1 else .stuck
  | _ => .stuck) := by first | exact (rfl) | (unfold srcR2; exact (rfl))
@[simp] theorem u_eCall (F : Fn) (fs : En → LH → Res (List Va)) env L : eCall F fs env L = ((fs env L).bind F) := by first | exact (rfl) | (unfold eCall; exact (rfl))
@[simp] theorem u_fCall (F : FnF) (fs : En → LH → Res (List Va)) env L : fCall F fs env L = ((fs env L).bind F) := by first | exact (rfl) | (unfold fCall; exact (rfl))
@[simp] theorem u_eMeth (chk : LH → Va → Bool) (g : Va → List Va → LH → Res Va) (fo : EF) (fs : En → LH → Res (List Va)) env L : eMeth chk g fo fs env L = ((fo env L).bind fun w L1 => if chk L1 w then (fs env L1).bind fun ws L2 => g w ws L2 else .stuck) := by first | exact (rfl) | (unfold eMeth; exact (rfl))
@[simp] theorem u_mAppend w ws L : mAppend w ws L = (match w, ws with
  | .loc n, [v] => match L[n]? with
    | some (some (.lst us)) => if us.length < sizeLine then .ok (.d .none) (L.set n (some (.lst (us ++ [v])))) else .stuck
    | _ => .stuck
  | _, _ => .stuck) := by first | exact (rfl) | (unfold mAppend; exact (rfl))
@[simp] theorem u_mInsert w ws L : mInsert w ws L = (match w, ws with
  | .loc n, [.d (.int i), v] => match L[n]? with
    | some (some (.lst us)) => if us.length < sizeLine ∧ 0 ≤ i ∧ i < 2 ^ 63 then .ok (.d .none) (L.set n (some (.lst (us.take i.toNat ++ [v] ++ us.drop i.toNat)))) else .stuck
    | _ => .stuck
  | _, _ => .stuck) := by first | exact (rfl) | (unfold mInsert; exact (rfl))
@[simp] theorem u_mPop0 w ws L : mPop0 w ws L = (match w, ws with
  | .loc n, [] => match L[n]? with
    | some (some (.lst us)) => match us[us.length - 1]? with
      | some u => .ok u (L.set n (some (.lst us.dropLast)))
      | none => .stuck
    | _ => .stuck
  | _, _ => .stuck) := by first | exact (rfl) | (unfold mPop0; exact (rfl))
@[simp] theorem u_eNeg (f : EF) env L : eNeg f env L = ((f env L).bind fun w L1 => match w with
  | .d (.int i) => .ok (.d (.int (-i))) L1
  | _ => .stuck) := by first | exact (rfl) | (unfold eNeg; exact (rfl))
open Classical in
@[simp] theorem u_cRepr ws L : cRepr ws L = (match ws with
  | [w] => match w.data L with
    | some x => if okShow x then .ok (.d (.str x.shown)) L else .stuck
    | none => .stuck
  | _ => .stuck) := by first | exact (rfl) | (unfold cRepr; exact (rfl))
@[simp] theorem u_eRev (f : EF) env L : eRev f env L = ((f env L).bind fun w L1 => match w.data L1 with
  | some (.list xs) => .ok (.d (.list xs.reverse)) L1
  | some (.tuple xs) => .ok (.d (.tuple xs.reverse)) L1
  | _ => .stuck) := by first | exact (rfl) | (unfold eRev; exact (rfl))
@[simp] theorem u_isLs L w : isLs L w = (match w with
  | .d (.list _) => true
  | .loc n => match L[n]? with
    | some (some (.lst _)) => true
    | _ => false
  | _ => false) := by first | exact (rfl) | (unfold isLs; exact (rfl))
@[simp] theorem u_tTrue x0 L : tTrue x0 L = (.ok true L) := by first | exact (rfl) | (unfold tTrue; exact (rfl))
@[simp] theorem u_srcE (k0 : Int) (fs : En → LH → Res (List Va)) env L : srcE k0 fs env L = ((fs env L).bind fun ws L1 => match ws with
  | [w] => match srcOf w L1 with
    | some p => .ok (enumV k0 p.1, p.2) L1
    | none => .stuck
  | _ => .stuck) := by first | exact (rfl) | (unfold srcE; exact (rfl))
@[simp] theorem u_sRaise (x : Str) env L : sRaise x env L = (.exc x none env L) := by first | exact (rfl) | (unfold sRaise; exact (rfl))
@[simp] theorem u_fDisp (ps : List (EF × EF)) env L : fDisp ps env L = (match dsp ps env L with
  | .ok kvs L1 => if kvs.length ≤ 15 then .ok (.di (mergeA [] kvs)) L1 else .stuck
  | _ => .stuck) := by first | exact (rfl) | (unfold fDisp; exact (rfl))
@[simp] theorem u_sAugIx (op : Int → Int → Int) (f g e : EF) env L : sAugIx op f g e env L = ((f env L).then env fun w L1 => (g env L1).then env fun u L2 => match w, u with
  | .loc n, .d (.int k) => match L2[n]? with
    | some (some (.lst ws)) => if 0 ≤ k then match ws[k.toNat]? with
      | some (.d (.int a)) => (e env L2).then env fun v L3 => match v, L3[n]? with
        | .d (.int b), some (some (.lst ws3)) => if k.toNat < ws3.length then .nx env (L3.set n (some (.lst (ws3.set k.toNat (.d (.int (op a b))))))) else .stuck
        | _, _ => .stuck
      | _ => .stuck
      else .stuck
    | _ => .stuck
  | _, _ => .stuck) := by first | exact (rfl) | (unfold sAugIx; exact (rfl))
@[simp] theorem u_eGet1 (f g : EF) env L : eGet1 f g env L = ((f env L).bind fun w L1 => if isD L1 w then (g env L1).bind fun u L2 => match w.dget L2 u with
  | some (some x) => .ok x L2
  | some none => .ok (.d .none) L2
  | none => .stuck
  else .stuck) := by first | exact (rfl) | (unfold eGet1; exact (rfl))
@[simp] theorem u_eGet2 (f g h : EF) env L : eGet2 f g h env L = ((f env L).bind fun w L1 => if isD L1 w then (g env L1).bind fun u L2 => (h env L2).bind fun z L3 => match w.dget L3 u with
  | some (some x) => .ok x L3
  | some none => .ok z L3
  | none => .stuck
  else .stuck) := by first | exact (rfl) | (unfold eGet2; exact (rfl))
@[simp] theorem u_isD L w : isD L w = (match w with
  | .dct _ => true
  | .loc n => match L[n]? with
    | some (some (.di _)) => true
    | some (some (.dt _)) => true
    | _ => false
  | _ => false) := by first | exact (rfl) | (unfold isD; exact (rfl))
@[simp] theorem u_srcIt (i : Nat) env L : srcIt i env L = (match env[i]? with
  | some (some (.loc n)) => match L[n]? with
    | some (some (.di kvs)) => .ok (itemsV kvs, some n) L
    | _ => .stuck
  | _ => .stuck) := by first | exact (rfl) | (unfold srcIt; exact (rfl))
@[simp] theorem u_fSortIt (i : Nat) env L : fSortIt i env L = (match env[i]? with
  | some (some (.loc n)) => match L[n]? with
    | some (some (.di kvs)) => match intKvs kvs with
      | some ks => .ok (.lst (((sortP ks).map fun q => PyData.tuple [.int q.1, .int q.2]).map Va.d)) L
      | none => .stuck
    | _ => .stuck
  | _ => .stuck) := by first | exact (rfl) | (unfold fSortIt; exact (rfl))
open Classical in
@[simp] theorem u_cMin1X ws L : cMin1X ws L = (one ws L fun us => match vaInts us with
  | some ns => match minI ns with
    | some m => .ok (.d (.int m)) L
    | none => .stuck
  | none => match datas us with
    | some (x :: r) => if PySem.W.AlikeAll (x :: r) ∧ PyData.depthAll (x :: r) ≤ 60 then .ok (.d (PySem.W.minD x r)) L else .stuck
    | _ => .stuck) := by first | exact (rfl) | (unfold cMin1X; exact (rfl))
open Classical in
@[simp] theorem u_eMinDef (fs : En → LH → Res (List Va)) (g : EF) env L : eMinDef fs g env L = ((fs env L).bind fun ws L1 => (g env L1).bind fun z L2 => one ws L2 fun us => match datas us with
  | some [] => .ok z L2
  | some (x :: r) => if PySem.W.AlikeAll (x :: r) ∧ PyData.depthAll (x :: r) ≤ 60 then .ok (.d (PySem.W.minD x r)) L2 else .stuck
  | none => .stuck) := by first | exact (rfl) | (unfold eMinDef; exact (rfl))
@[simp] theorem u_fLstR1 (f : EF) env L : fLstR1 f env L = ((f env L).bind fun w L1 => match w with
  | .d (.int n) => if RgOk 0 n then .ok (.lst ((rngD 0 n.toNat).map Va.d)) L1 else .stuck
  | _ => .stuck) := by first | exact (rfl) | (unfold fLstR1; exact (rfl))
@[simp] theorem u_fLstR2 (f g : EF) env L : fLstR2 f g env L = ((f env L).bind fun w L1 => (g env L1).bind fun u L2 => match w, u with
  | .d (.int a), .d (.int b) => if RgOk a b then .ok (.lst ((rngD a (b - a).toNat).map Va.d)) L2 else .stuck
  | _, _ => .stuck) := by first | exact (rfl) | (unfold fLstR2; exact (rfl))
@[simp] theorem u_eTupR1 (f : EF) env L : eTupR1 f env L = ((f env L).bind fun w L1 => match w with
  | .d (.int n) => if RgOk 0 n then .ok (.d (.tuple (rngD 0 n.toNat))) L1 else .stuck
  | _ => .stuck) := by first | exact (rfl) | (unfold eTupR1; exact (rfl))
@[simp] theorem u_eTupR2 (f g : EF) env L : eTupR2 f g env L = ((f env L).bind fun w L1 => (g env L1).bind fun u L2 => match w, u with
  | .d (.int a), .d (.int b) => if RgOk a b then .ok (.d (.tuple (rngD a (b - a).toNat))) L2 else .stuck
  | _, _ => .stuck) := by first | exact (rfl) | (unfold eTupR2; exact (rfl))
@[simp] theorem u_eIsE (x : Str) (f : EF) env L : eIsE x f env L = ((f env L).bind fun w L1 => match w with
  | .exc c _ => if c ∈ ten then .ok (.d (.bool (isErr c x || decide (x = "ValueError")))) L1 else .stuck
  | .d .none => .ok (.d (.bool false)) L1
  | _ => .stuck) := by first | exact (rfl) | (unfold eIsE; exact (rfl))
@[simp] theorem u_sTry (i j : Nat) (f : SFn) env L : sTry i j f env L = (match f env L with
  | .exc c g env1 L1 => if c ∈ ten ∧ i < env1.length then .nx ((env1.set j (some (.exc c g))).set i none) L1 else .stuck
  | o => o) := by first | exact (rfl) | (unfold sTry; exact (rfl))
@[simp] theorem u_srcZ (fs : En → LH → Res (List Va)) env L : srcZ fs env L = ((fs env L).bind fun ws L1 => match ws with
  | [w, u] => match srcOf w L1, srcOf u L1 with
    | some (xs, none), some (ys, none) => match w, u with
      | .d (.list _), .d (.list _) => .ok (zipV xs ys, none) L1
      | .d (.tuple _), .d (.tuple _) => .ok (zipV xs ys, none) L1
      | _, _ => .stuck
    | _, _ => .stuck
  | _ => .stuck) := by first | exact (rfl) | (unfold srcZ; exact (rfl))
end L2.HW
namespace L2.HW
open PySem PySem.Spec PyProof.Rows
noncomputable def b_l_mixed : SFn :=
  (sSeq (sSet 2 (eOp opMod (eCallB cInt (aCons (eOp opAdd (eOp opAdd (eOp opMul (eOp opMod (eCallB cInt (aCons (eVar 0) aNil)) (eC (.int 2147483647))) (eC (.int 48271))) (eOp opMul (eVar 1) (eC (.int 69621)))) (eC (.int 1048583))) aNil)) (eC (.int 2147483629))))
  (sSeq (sSet 2 (eOp opMod (eCallB cInt (aCons (eOp opMul (eVar 2) (eVar 2)) aNil)) (eC (.int 2147483587))))
  (sRet (eOp opMod (eCallB cInt (aCons (eOp opMul (eVar 2) (eOp opAdd (eVar 2) (eC (.int 2)))) aNil)) (eC (.int 2147483579))))))
noncomputable def F_l_mixed : Fn := mkFn 2 3 b_l_mixed
noncomputable def b_l_pile_1 : SFn :=
  (sSet 3 (eOp opAdd (eOp opMul (eVar 3) (eC (.int 2147483579))) (eCall F_l_mixed (aCons (eVar 2) (aCons (eOp opAdd (eOp opAdd (eOp opMul (eC (.int 7)) (eVar 1)) (eOp opMul (eC (.int 100)) (eVar 4))) (eOp opMul (eVar 4) (eVar 4))) aNil)))))
noncomputable def b_l_pile : SFn :=
  (sSeq (sSet 2 (eC (.int 0)))
  (sSeq (sIf (tVal (eOp opLt (eVar 1) (eCallB cLen (aCons (eVar 0) aNil)))) (sSet 2 (eOp opIx (eVar 0) (eVar 1))) sNil)
  (sSeq (sIf (tVal (eOp opGe (eVar 2) (eOp opPow (eC (.int 10)) (eC (.int 18))))) (sRetF (fLst (aCons (eOp opMod (eCallB cInt (aCons (eOp opSub (eVar 2) (eOp opPow (eC (.int 10)) (eC (.int 18)))) aNil)) (eOp opMul (eOp opMul (eOp opMul (eOp opPow (eC (.int 10)) (eC (.int 60))) (eOp opPow (eC (.int 10)) (eC (.int 60)))) (eOp opPow (eC (.int 10)) (eC (.int 60)))) (eOp opPow (eC (.int 10)) (eC (.int 60))))) aNil))) sNil)
  (sSeq (sSet 3 (eC (.int 0)))
  (sSeq (sFor (srcR1 (aCons (eC (.int 24)) aNil)) (tN 4) b_l_pile_1)
  (sRetF (fLst (aCons (eVar 3) aNil))))))))
noncomputable def F_l_pile : FnF := mkFnF 2 5 b_l_pile
noncomputable def b_l_take : SFn :=
  (sSeq (sSet 2 (eOp opMod (eCallB cInt (aCons (eOp opIx (eVar 0) (eC (.int 0))) aNil)) (eVar 1)))
  (sSeq (sAsg (eOp opDiv (eOp opIx (eVar 0) (eC (.int 0))) (eVar 1)) (tIx (eVar 0) (eC (.int 0))))
  (sRet (eVar 2))))
noncomputable def F_l_take : Fn := mkFn 2 3 b_l_take
noncomputable def b_l_roads_1 : SFn :=
  (sSeq (sSet 6 (eCall F_l_take (aCons (eVar 0) (aCons (eOp opSub (eVar 1) (eC (.int 1))) aNil))))
  (sSeq (sIf (tVal (eOp opGe (eVar 6) (eVar 2))) (sSet 6 (eOp opAdd (eVar 6) (eC (.int 1)))) sNil)
  (sSeq (sSet 7 (eCall F_l_take (aCons (eVar 0) (aCons (eOp opSub (eVar 1) (eC (.int 1))) aNil))))
  (sSeq (sIf (tVal (eOp opGe (eVar 7) (eVar 6))) (sSet 7 (eOp opAdd (eVar 7) (eC (.int 1)))) sNil)
  (sExpr (eMeth isLs mAppend (eVar 4) (aCons (eTup (aCons (eVar 6) (aCons (eVar 7) (aCons (eOp opAdd (eC (.int 1)) (eOp opIx (eDat (fLst (aCons (eC (.int 0)) (aCons (eC (.int 0)) (aCons (eC (.int 1)) (aCons (eC (.int 2)) (aCons (eC (.int 4)) aNil))))))) (eCall F_l_take (aCons (eVar 0) (aCons (eC (.int 5)) aNil))))) (aCons (eOp opAdd (eC (.int 1)) (eCall F_l_take (aCons (eVar 0) (aCons (eC (.int 3)) aNil)))) aNil))))) aNil)))))))
noncomputable def b_l_roads : SFn :=
  (sSeq (sSet 4 (eNew (fLst aNil)))
  (sSeq (sFor (srcR1 (aCons (eVar 3) aNil)) (tN 5) b_l_roads_1)
  (sRet (eCallB cTuple (aCons (eVar 4) aNil)))))
noncomputable def F_l_roads : Fn := mkFn 4 8 b_l_roads
noncomputable def b_l_web : SFn :=
  (sSeq (sSet 2 (eOp opAdd (eC (.int 2)) (eCall F_l_take (aCons (eVar 0) (aCons (eOp opSub (eVar 1) (eC (.int 1))) aNil)))))
  (sSeq (sSet 3 (eCall F_l_take (aCons (eVar 0) (aCons (eVar 2) aNil))))
  (sSeq (sSet 4 (eOp opMod (eCallB cInt (aCons (eOp opAdd (eOp opAdd (eVar 3) (eC (.int 1))) (eCall F_l_take (aCons (eVar 0) (aCons (eOp opSub (eVar 2) (eC (.int 1))) aNil)))) aNil)) (eVar 2)))
  (sRet (eTup (aCons (eVar 2) (aCons (eVar 4) (aCons (eVar 3) (aCons (eCall F_l_roads (aCons (eVar 0) (aCons (eVar 2) (aCons (eVar 3) (aCons (eCall F_l_take (aCons (eVar 0) (aCons (eOp opAdd (eOp opMul (eC (.int 2)) (eVar 2)) (eC (.int 2))) aNil))) aNil))))) aNil)))))))))
noncomputable def F_l_web : Fn := mkFn 2 5 b_l_web
noncomputable def b_is_whole : SFn :=
  (sRet (eAnd (eIsi "int" (eVar 0)) (eAnd (eNot (eIsi "bool" (eVar 0))) (eOp opGe (eVar 0) (eC (.int 0))))))
noncomputable def F_is_whole : Fn := mkFn 1 1 b_is_whole
noncomputable def b_is_place : SFn :=
  (sRet (eAnd (eCall F_is_whole (aCons (eVar 1) aNil)) (eOp opLt (eVar 1) (eVar 0))))
noncomputable def F_is_place : Fn := mkFn 2 2 b_is_place
noncomputable def b_is_more : SFn :=
  (sRet (eAnd (eCall F_is_whole (aCons (eVar 0) aNil)) (eOp opGt (eVar 0) (eC (.int 0)))))
noncomputable def F_is_more : Fn := mkFn 1 1 b_is_more
noncomputable def b_is_road : SFn :=
  (sSeq (sIf (tOrF (tNotF (tVal (eIsi "tuple" (eVar 2)))) (tVal (eOp opNe (eCallB cLen (aCons (eVar 2) aNil)) (eC (.int 4))))) (sRet (eC (.bool false))) sNil)
  (sSeq (sAsg (eVar 2) (tTupT 4 (tgCons (tN 3) (tgCons (tN 4) (tgCons (tN 5) (tgCons (tN 6) tgNil))))))
  (sSeq (sIf (tOrF (tNotF (tVal (eCall F_is_place (aCons (eVar 0) (aCons (eVar 3) aNil))))) (tOrF (tNotF (tVal (eCall F_is_place (aCons (eVar 0) (aCons (eVar 4) aNil))))) (tOrF (tVal (eOp opEq (eVar 3) (eVar 4))) (tVal (eOp opEq (eVar 3) (eVar 1)))))) (sRet (eC (.bool false))) sNil)
  (sRet (eAnd (eCall F_is_more (aCons (eVar 5) aNil)) (eCall F_is_more (aCons (eVar 6) aNil)))))))
noncomputable def F_is_road : Fn := mkFn 3 7 b_is_road
noncomputable def b_is_right_web : SFn :=
  (sSeq (sIf (tOrF (tNotF (tVal (eIsi "tuple" (eVar 0)))) (tOrF (tVal (eOp opNe (eCallB cLen (aCons (eVar 0) aNil)) (eC (.int 4)))) (tOrF (tNotF (tVal (eCall F_is_whole (aCons (eOp opIx (eVar 0) (eC (.int 0))) aNil)))) (tVal (eOp opLt (eOp opIx (eVar 0) (eC (.int 0))) (eC (.int 2))))))) (sRet (eC (.bool false))) sNil)
  (sSeq (sAsg (eVar 0) (tTupT 4 (tgCons (tN 1) (tgCons (tN 2) (tgCons (tN 3) (tgCons (tN 4) tgNil))))))
  (sSeq (sIf (tOrF (tNotF (tVal (eCall F_is_place (aCons (eVar 1) (aCons (eVar 2) aNil))))) (tOrF (tNotF (tVal (eCall F_is_place (aCons (eVar 1) (aCons (eVar 3) aNil))))) (tOrF (tVal (eOp opEq (eVar 2) (eVar 3))) (tNotF (tVal (eIsi "tuple" (eVar 4))))))) (sRet (eC (.bool false))) sNil)
  (sRet (eCallB cAll (aCons (eDat (fComp (srcV (eVar 4)) (tN 5) tTrue (eCall F_is_road (aCons (eVar 1) (aCons (eVar 3) (aCons (eVar 5) aNil)))) [5])) aNil))))))
noncomputable def F_is_right_web : Fn := mkFn 1 6 b_is_right_web
noncomputable def b_l_whole : SFn :=
  (sRet (eAnd (eIsi "int" (eVar 0)) (eNot (eIsi "bool" (eVar 0)))))
noncomputable def F_l_whole : Fn := mkFn 1 1 b_l_whole
noncomputable def b_l_is_from : SFn :=
  (sRet (eAnd (eCall F_l_whole (aCons (eVar 0) aNil)) (eOp opGe (eVar 0) (eVar 1))))
noncomputable def F_l_is_from : Fn := mkFn 2 2 b_l_is_from
noncomputable def b_l_is_place : SFn :=
  (sRet (eAnd (eCall F_l_is_from (aCons (eVar 1) (aCons (eC (.int 0)) aNil))) (eOp opLt (eVar 1) (eVar 0))))
noncomputable def F_l_is_place : Fn := mkFn 2 2 b_l_is_place
noncomputable def b_l_is_road : SFn :=
  (sSeq (sIf (tOrF (tNotF (tVal (eIsi "tuple" (eVar 2)))) (tVal (eOp opNe (eCallB cLen (aCons (eVar 2) aNil)) (eC (.int 4))))) (sRet (eC (.bool false))) sNil)
  (sSeq (sAsg (eVar 2) (tTupT 4 (tgCons (tN 3) (tgCons (tN 4) (tgCons (tN 5) (tgCons (tN 6) tgNil))))))
  (sSeq (sIf (tOrF (tNotF (tVal (eCall F_l_is_place (aCons (eVar 0) (aCons (eVar 3) aNil))))) (tOrF (tNotF (tVal (eCall F_l_is_place (aCons (eVar 0) (aCons (eVar 4) aNil))))) (tOrF (tVal (eOp opEq (eVar 3) (eVar 4))) (tVal (eOp opEq (eVar 3) (eVar 1)))))) (sRet (eC (.bool false))) sNil)
  (sRet (eAnd (eCall F_l_is_from (aCons (eVar 5) (aCons (eC (.int 1)) aNil))) (eCall F_l_is_from (aCons (eVar 6) (aCons (eC (.int 1)) aNil))))))))
noncomputable def F_l_is_road : Fn := mkFn 3 7 b_l_is_road
noncomputable def b_l_bad_webs_1 : SFn :=
  (sExpr (eMeth isLs mAppend (eVar 1) (aCons (eTup (aCons (eVar 2) (aCons (eC (.int 0)) (aCons (eC (.int 1)) (aCons (eTup aNil) aNil))))) aNil)))
noncomputable def b_l_bad_webs_2 : SFn :=
  (sSet 1 (eNew (fCat (eVar 1) (eDat (fLst (aCons (eTup (aCons (eC (.int 2)) (aCons (eVar 3) (aCons (eC (.int 0)) (aCons (eTup aNil) aNil))))) (aCons (eTup (aCons (eC (.int 2)) (aCons (eC (.int 0)) (aCons (eVar 3) (aCons (eTup aNil) aNil))))) aNil)))))))
noncomputable def b_l_bad_webs_3 : SFn :=
  (sSeq (sSet 1 (eNew (fCat (eVar 1) (eDat (fLst (aCons (eTup (aCons (eC (.int 2)) (aCons (eC (.int 0)) (aCons (eC (.int 1)) (aCons (eTup (aCons (eVar 3) aNil)) aNil))))) (aCons (eTup (aCons (eC (.int 2)) (aCons (eC (.int 0)) (aCons (eC (.int 1)) (aCons (eTup (aCons (eVar 0) (aCons (eVar 3) aNil))) aNil))))) (aCons (eTup (aCons (eC (.int 2)) (aCons (eC (.int 0)) (aCons (eC (.int 1)) (aCons (eTup (aCons (eVar 3) (aCons (eVar 0) aNil))) aNil))))) aNil))))))))
  (sExpr (eMeth isLs mAppend (eVar 1) (aCons (eTup (aCons (eC (.int 2)) (aCons (eC (.int 0)) (aCons (eC (.int 1)) (aCons (eTup (aCons (eVar 0) (aCons (eVar 3) (aCons (eVar 0) aNil)))) aNil))))) aNil))))
noncomputable def b_l_bad_webs : SFn :=
  (sSeq (sSet 0 (eTup (aCons (eC (.int 0)) (aCons (eC (.int 1)) (aCons (eC (.int 1)) (aCons (eC (.int 1)) aNil))))))
  (sSeq (sSet 1 (eNew (fLst (aCons (eC .none) (aCons (eC (.int 0)) (aCons (eC (.bool true)) (aCons (eC (.str "")) (aCons (eTup aNil) (aCons (eDat (fLst aNil)) (aCons (eTup (aCons (eC (.int 2)) (aCons (eC (.int 0)) (aCons (eC (.int 1)) aNil)))) (aCons (eTup (aCons (eC (.int 2)) (aCons (eC (.int 0)) (aCons (eC (.int 1)) (aCons (eTup aNil) (aCons (eTup aNil) aNil)))))) (aCons (eDat (fLst (aCons (eC (.int 2)) (aCons (eC (.int 0)) (aCons (eC (.int 1)) (aCons (eTup aNil) aNil)))))) (aCons (eTup (aCons (eC (.int 2)) (aCons (eC (.int 0)) (aCons (eC (.int 1)) (aCons (eDat (fLst aNil)) aNil))))) (aCons (eTup (aCons (eC (.int 2)) (aCons (eC (.int 0)) (aCons (eC (.int 1)) (aCons (eC .none) aNil))))) aNil))))))))))))))
  (sSeq (sFor (srcV (eDat (fLst (aCons (eC (.int 1)) (aCons (eC (.int 0)) (aCons (eNeg (eC (.int 1))) (aCons (eC (.bool true)) (aCons (eC .none) (aCons (eC (.str "2")) (aCons (eTup (aCons (eC (.int 2)) aNil)) aNil)))))))))) (tN 2) b_l_bad_webs_1)
  (sSeq (sFor (srcV (eDat (fLst (aCons (eC (.int 2)) (aCons (eNeg (eC (.int 1))) (aCons (eC (.bool true)) (aCons (eC .none) (aCons (eC (.str "1")) (aCons (eTup (aCons (eC (.int 1)) aNil)) aNil))))))))) (tN 3) b_l_bad_webs_2)
  (sSeq (sSet 1 (eNew (fCat (eVar 1) (eDat (fLst (aCons (eTup (aCons (eC (.int 2)) (aCons (eC (.int 0)) (aCons (eC (.int 0)) (aCons (eTup aNil) aNil))))) (aCons (eTup (aCons (eC (.int 2)) (aCons (eC (.int 1)) (aCons (eC (.int 1)) (aCons (eTup (aCons (eVar 0) aNil)) aNil))))) (aCons (eTup (aCons (eC (.int 3)) (aCons (eC (.bool false)) (aCons (eC (.int 1)) (aCons (eTup aNil) aNil))))) (aCons (eTup (aCons (eC (.int 3)) (aCons (eC (.int 2)) (aCons (eC (.bool false)) (aCons (eTup aNil) aNil))))) aNil)))))))))
  (sSeq (sSet 4 (eDat (fLst (aCons (eC .none) (aCons (eTup aNil) (aCons (eTup (aCons (eC (.int 0)) (aCons (eC (.int 1)) (aCons (eC (.int 1)) aNil)))) (aCons (eTup (aCons (eC (.int 0)) (aCons (eC (.int 1)) (aCons (eC (.int 1)) (aCons (eC (.int 1)) (aCons (eC (.int 1)) aNil)))))) (aCons (eDat (fLst (aCons (eC (.int 0)) (aCons (eC (.int 1)) (aCons (eC (.int 1)) (aCons (eC (.int 1)) aNil)))))) (aCons (eTup (aCons (eC (.int 1)) (aCons (eC (.int 0)) (aCons (eC (.int 1)) (aCons (eC (.int 1)) aNil))))) (aCons (eTup (aCons (eC (.int 0)) (aCons (eC (.int 0)) (aCons (eC (.int 1)) (aCons (eC (.int 1)) aNil))))) (aCons (eTup (aCons (eC (.int 0)) (aCons (eC (.int 2)) (aCons (eC (.int 1)) (aCons (eC (.int 1)) aNil))))) (aCons (eTup (aCons (eNeg (eC (.int 1))) (aCons (eC (.int 1)) (aCons (eC (.int 1)) (aCons (eC (.int 1)) aNil))))) aNil))))))))))))
  (sSeq (sSet 4 (eOp opAdd (eVar 4) (eDat (fLst (aCons (eTup (aCons (eC (.int 0)) (aCons (eC (.int 1)) (aCons (eC (.int 0)) (aCons (eC (.int 1)) aNil))))) (aCons (eTup (aCons (eC (.int 0)) (aCons (eC (.int 1)) (aCons (eC (.int 1)) (aCons (eC (.int 0)) aNil))))) (aCons (eTup (aCons (eC (.int 0)) (aCons (eC (.int 1)) (aCons (eNeg (eC (.int 1))) (aCons (eC (.int 1)) aNil))))) (aCons (eTup (aCons (eC (.int 0)) (aCons (eC (.int 1)) (aCons (eC (.int 1)) (aCons (eNeg (eC (.int 1))) aNil))))) (aCons (eTup (aCons (eC (.int 0)) (aCons (eC (.int 1)) (aCons (eC (.bool true)) (aCons (eC (.int 1)) aNil))))) (aCons (eTup (aCons (eC (.int 0)) (aCons (eC (.int 1)) (aCons (eC (.int 1)) (aCons (eC (.bool true)) aNil))))) aNil))))))))))
  (sSeq (sSet 4 (eOp opAdd (eVar 4) (eDat (fLst (aCons (eTup (aCons (eC (.int 0)) (aCons (eNeg (eC (.int 1))) (aCons (eC (.int 1)) (aCons (eC (.int 1)) aNil))))) (aCons (eTup (aCons (eC (.int 2)) (aCons (eC (.int 1)) (aCons (eC (.int 1)) (aCons (eC (.int 1)) aNil))))) (aCons (eTup (aCons (eC (.int 9)) (aCons (eC (.int 1)) (aCons (eC (.int 1)) (aCons (eC (.int 1)) aNil))))) (aCons (eTup (aCons (eC .none) (aCons (eC (.int 1)) (aCons (eC (.int 1)) (aCons (eC (.int 1)) aNil))))) (aCons (eTup (aCons (eC (.int 0)) (aCons (eDat (fLst (aCons (eC (.int 1)) aNil))) (aCons (eC (.int 1)) (aCons (eC (.int 1)) aNil))))) aNil)))))))))
  (sSeq (sFor (srcV (eOp opAdd (eVar 4) (eDat (fLst (aCons (eTup (aCons (eC (.bool false)) (aCons (eC (.int 1)) (aCons (eC (.int 1)) (aCons (eC (.int 1)) aNil))))) (aCons (eTup (aCons (eC (.int 0)) (aCons (eC (.bool true)) (aCons (eC (.int 1)) (aCons (eC (.int 1)) aNil))))) (aCons (eTup (aCons (eC (.int 0)) (aCons (eC (.int 1)) (aCons (eC .none) (aCons (eC (.int 1)) aNil))))) (aCons (eTup (aCons (eC (.int 0)) (aCons (eC (.int 1)) (aCons (eC (.int 1)) (aCons (eC (.str "1")) aNil))))) (aCons (eTup (aCons (eC (.int 0)) (aCons (eC (.int 1)) (aCons (eTup (aCons (eC (.int 1)) aNil)) (aCons (eC (.int 1)) aNil))))) aNil))))))))) (tN 3) b_l_bad_webs_3)
  (sRet (eVar 1)))))))))))
noncomputable def F_l_bad_webs : Fn := mkFn 0 5 b_l_bad_webs
noncomputable def b_look_at_web : SFn :=
  (sIf (tNotF (tVal (eCall F_is_right_web (aCons (eVar 0) aNil)))) (sRaise "NoWeb") sNil)
noncomputable def F_look_at_web : Fn := mkFn 1 1 b_look_at_web
noncomputable def b_lengths_to_1 : SFn :=
  (sIf (tAndF (tVal (eOp opGt (eOp opIx (eVar 1) (eVar 4)) (eC (.int 0)))) (tAndF (tVal (eOp (opIn false) (eVar 6) (eVar 2))) (tOrF (tVal (eOp (opIn true) (eVar 5) (eVar 2))) (tVal (eOp opGt (eOp opIx (eVar 2) (eVar 5)) (eOp opAdd (eOp opIx (eVar 2) (eVar 6)) (eVar 7))))))) (sAsg (eOp opAdd (eOp opIx (eVar 2) (eVar 6)) (eVar 7)) (tIx (eVar 2) (eVar 5))) sNil)
noncomputable def b_lengths_to_2 : SFn :=
  (sFor (srcE 0 (aCons (eOp opIx (eVar 0) (eC (.int 3))) aNil)) (tTupT 2 (tgCons (tN 4) (tgCons (tTupT 4 (tgCons (tN 5) (tgCons (tN 6) (tgCons (tN 7) (tgCons (tN 8) tgNil))))) tgNil))) b_lengths_to_1)
noncomputable def b_lengths_to : SFn :=
  (sSeq (sSet 2 (eNew (fDisp [((eOp opIx (eVar 0) (eC (.int 2))), (eC (.int 0)))])))
  (sSeq (sFor (srcR1 (aCons (eOp opIx (eVar 0) (eC (.int 0))) aNil)) (tN 3) b_lengths_to_2)
  (sRet (eVar 2))))
noncomputable def F_lengths_to : Fn := mkFn 2 9 b_lengths_to
noncomputable def b_first_way_1 : SFn :=
  (sIf (tAndF (tVal (eOp opGt (eOp opIx (eVar 1) (eVar 5)) (eC (.int 0)))) (tAndF (tVal (eOp opEq (eVar 6) (eVar 3))) (tAndF (tVal (eOp (opIn false) (eVar 7) (eVar 2))) (tVal (eOp opEq (eOp opIx (eVar 2) (eVar 6)) (eOp opAdd (eOp opIx (eVar 2) (eVar 7)) (eVar 8))))))) (sSeq (sExpr (eMeth isLs mAppend (eVar 4) (aCons (eVar 5) aNil)))
  (sSeq (sSet 3 (eVar 7))
  sBreak)) sNil)
noncomputable def b_first_way_2 : SFn :=
  (sFor (srcE 0 (aCons (eOp opIx (eVar 0) (eC (.int 3))) aNil)) (tTupT 2 (tgCons (tN 5) (tgCons (tTupT 4 (tgCons (tN 6) (tgCons (tN 7) (tgCons (tN 8) (tgCons (tN 9) tgNil))))) tgNil))) b_first_way_1)
noncomputable def b_first_way : SFn :=
  (sSeq (sSet 2 (eCall F_lengths_to (aCons (eVar 0) (aCons (eVar 1) aNil))))
  (sSeq (sSet 3 (eOp opIx (eVar 0) (eC (.int 1))))
  (sSeq (sIf (tVal (eOp (opIn true) (eVar 3) (eVar 2))) (sRet (eC .none)) sNil)
  (sSeq (sSet 4 (eNew (fLst aNil)))
  (sSeq (sWhile (tVal (eOp opNe (eVar 3) (eOp opIx (eVar 0) (eC (.int 2))))) b_first_way_2)
  (sRet (eCallB cTuple (aCons (eVar 4) aNil))))))))
noncomputable def F_first_way : Fn := mkFn 2 10 b_first_way
noncomputable def b_found_hurried_1 : SFn :=
  (sAugIx (· - ·) (eVar 1) (eVar 5) (eVar 4))
noncomputable def b_found_hurried_2 : SFn :=
  (sSeq (sSet 4 (eCallB cMin1X (aCons (eDat (fComp (srcV (eVar 3)) (tN 5) tTrue (eOp opIx (eVar 1) (eVar 5)) [5])) aNil)))
  (sSeq (sFor (srcV (eVar 3)) (tN 5) b_found_hurried_1)
  (sSeq (sExpr (eMeth isLs mAppend (eVar 2) (aCons (eTup (aCons (eCallB cSum (aCons (eDat (fComp (srcV (eVar 3)) (tN 5) tTrue (eOp opIx (eOp opIx (eOp opIx (eVar 0) (eC (.int 3))) (eVar 5)) (eC (.int 2))) [5])) aNil)) (aCons (eVar 4) (aCons (eVar 3) aNil)))) aNil)))
  (sSet 3 (eCall F_first_way (aCons (eVar 0) (aCons (eVar 1) aNil)))))))
noncomputable def b_found_hurried : SFn :=
  (sSeq (sSet 1 (eNew (fComp (srcV (eOp opIx (eVar 0) (eC (.int 3)))) (tTupT 4 (tgCons (tN 6) (tgCons (tN 7) (tgCons (tN 8) (tgCons (tN 9) tgNil))))) tTrue (eVar 9) [6, 7, 8, 9])))
  (sSeq (sSet 2 (eNew (fLst aNil)))
  (sSeq (sSet 3 (eCall F_first_way (aCons (eVar 0) (aCons (eVar 1) aNil))))
  (sSeq (sWhile (tVal (eOp opNotN (eVar 3) (eC .none))) b_found_hurried_2)
  (sRet (eVar 2))))))
noncomputable def F_found_hurried : FnF := mkFnF 1 10 b_found_hurried
noncomputable def b_hurried : SFn :=
  (sSeq (sExpr (eCall F_look_at_web (aCons (eVar 0) aNil)))
  (sRetF (fCall F_found_hurried (aCons (eVar 0) aNil))))
noncomputable def F_hurried : FnF := mkFnF 1 1 b_hurried
noncomputable def b_look_at_moment : SFn :=
  (sIf (tNotF (tVal (eCall F_is_whole (aCons (eVar 0) aNil)))) (sRaise "NoMoment") sNil)
noncomputable def F_look_at_moment : Fn := mkFn 1 1 b_look_at_moment
noncomputable def b_brought : SFn :=
  (sRet (eCallB cSum (aCons (eDat (fComp (srcV (eVar 0)) (tTupT 2 (tgCons (tN 2) (tgCons (tN 3) tgNil))) tTrue (eOp opMul (eVar 3) (eCallB cMax2 (aCons (eC (.int 0)) (aCons (eOp opSub (eOp opAdd (eVar 1) (eC (.int 1))) (eVar 2)) aNil)))) [2, 3])) aNil)))
noncomputable def F_brought : Fn := mkFn 2 4 b_brought
noncomputable def b_found_rows : SFn :=
  (sRet (eDat (fComp (srcV (eDat (fCall F_found_hurried (aCons (eVar 0) aNil)))) (tTupT 3 (tgCons (tN 1) (tgCons (tN 2) (tgCons (tN 3) tgNil)))) tTrue (eTup (aCons (eVar 1) (aCons (eVar 2) aNil))) [1, 2, 3])))
noncomputable def F_found_rows : Fn := mkFn 1 4 b_found_rows
noncomputable def b_hurried_most : SFn :=
  (sSeq (sExpr (eCall F_look_at_web (aCons (eVar 0) aNil)))
  (sSeq (sExpr (eCall F_look_at_moment (aCons (eVar 1) aNil)))
  (sRet (eCall F_brought (aCons (eCall F_found_rows (aCons (eVar 0) aNil)) (aCons (eVar 1) aNil))))))
noncomputable def F_hurried_most : Fn := mkFn 2 2 b_hurried_most
noncomputable def b_look_at_number : SFn :=
  (sIf (tNotF (tVal (eCall F_is_more (aCons (eVar 0) aNil)))) (sRaise "NoNumber") sNil)
noncomputable def F_look_at_number : Fn := mkFn 1 1 b_look_at_number
noncomputable def b_time_for_1 : SFn :=
  (sSeq (sSet 4 (eOp opDiv (eOp opAdd (eVar 2) (eVar 3)) (eC (.int 2))))
  (sAsg (eIf (tVal (eOp opGe (eCall F_brought (aCons (eVar 0) (aCons (eVar 4) aNil))) (eVar 1))) (eTup (aCons (eVar 2) (aCons (eVar 4) aNil))) (eTup (aCons (eVar 4) (aCons (eVar 3) aNil)))) (tTupT 2 (tgCons (tN 2) (tgCons (tN 3) tgNil)))))
noncomputable def b_time_for : SFn :=
  (sSeq (sIf (tVal (eOp opEq (eVar 0) (eDat (fLst aNil)))) (sRet (eC .none)) sNil)
  (sSeq (sPar 2 3 (aCons (eNeg (eC (.int 1))) (aCons (eOp opAdd (eOp opIx (eOp opIx (eVar 0) (eC (.int 0))) (eC (.int 0))) (eVar 1)) aNil)))
  (sSeq (sWhile (tVal (eOp opGt (eOp opSub (eVar 3) (eVar 2)) (eC (.int 1)))) b_time_for_1)
  (sRet (eVar 3)))))
noncomputable def F_time_for : Fn := mkFn 2 5 b_time_for
noncomputable def b_hurried_time : SFn :=
  (sSeq (sExpr (eCall F_look_at_web (aCons (eVar 0) aNil)))
  (sSeq (sExpr (eCall F_look_at_number (aCons (eVar 1) aNil)))
  (sRet (eCall F_time_for (aCons (eCall F_found_rows (aCons (eVar 0) aNil)) (aCons (eVar 1) aNil))))))
noncomputable def F_hurried_time : Fn := mkFn 2 2 b_hurried_time
noncomputable def b_arcs_1 : SFn :=
  (sSeq (sIf (tVal (eOp opLt (eOp opIx (eVar 1) (eVar 3)) (eVar 7))) (sExpr (eMeth isLs mAppend (eVar 2) (aCons (eTup (aCons (eVar 4) (aCons (eVar 5) (aCons (eVar 6) (aCons (eVar 3) (aCons (eOp opSub (eVar 7) (eOp opIx (eVar 1) (eVar 3))) aNil)))))) aNil))) sNil)
  (sIf (tVal (eOp opGt (eOp opIx (eVar 1) (eVar 3)) (eC (.int 0)))) (sExpr (eMeth isLs mAppend (eVar 2) (aCons (eTup (aCons (eVar 5) (aCons (eVar 4) (aCons (eNeg (eVar 6)) (aCons (eVar 3) (aCons (eOp opIx (eVar 1) (eVar 3)) aNil)))))) aNil))) sNil))
noncomputable def b_arcs : SFn :=
  (sSeq (sSet 2 (eNew (fLst aNil)))
  (sSeq (sFor (srcE 0 (aCons (eOp opIx (eVar 0) (eC (.int 3))) aNil)) (tTupT 2 (tgCons (tN 3) (tgCons (tTupT 4 (tgCons (tN 4) (tgCons (tN 5) (tgCons (tN 6) (tgCons (tN 7) tgNil))))) tgNil))) b_arcs_1)
  (sRet (eVar 2))))
noncomputable def F_arcs : Fn := mkFn 2 8 b_arcs
noncomputable def b_distances_1 : SFn :=
  (sIf (tVal (eOp (opIn false) (eOp opIx (eVar 6) (eC (.int 0))) (eVar 3))) (sSeq (sPar 7 8 (aCons (eOp opAdd (eOp opIx (eOp opIx (eVar 3) (eOp opIx (eVar 6) (eC (.int 0)))) (eC (.int 0))) (eOp opIx (eVar 6) (eC (.int 2)))) (aCons (eOp opAdd (eOp opIx (eOp opIx (eVar 3) (eOp opIx (eVar 6) (eC (.int 0)))) (eC (.int 1))) (eC (.int 1))) aNil)))
  (sIf (tOrF (tVal (eOp (opIn true) (eOp opIx (eVar 6) (eC (.int 1))) (eVar 3))) (tVal (eOp opLt (eTup (aCons (eVar 7) (aCons (eVar 8) aNil))) (eSl (eOp opIx (eVar 3) (eOp opIx (eVar 6) (eC (.int 1)))) pNone (pSome (eC (.int 2))))))) (sAsg (eTup (aCons (eVar 7) (aCons (eVar 8) (aCons (eVar 6) aNil)))) (tIx (eVar 3) (eOp opIx (eVar 6) (eC (.int 1))))) sNil)) sNil)
noncomputable def b_distances_2 : SFn :=
  (sFor (srcV (eVar 4)) (tN 6) b_distances_1)
noncomputable def b_distances : SFn :=
  (sSeq (sSet 3 (eNew (fDComp (srcIt 2) (tTupT 2 (tgCons (tN 9) (tgCons (tN 7) tgNil))) tTrue (eVar 9) (eTup (aCons (eVar 7) (aCons (eC (.int 0)) (aCons (eC .none) aNil)))) [9, 7])))
  (sSeq (sSet 4 (eCall F_arcs (aCons (eVar 0) (aCons (eVar 1) aNil))))
  (sSeq (sFor (srcR1 (aCons (eOp opIx (eVar 0) (eC (.int 0))) aNil)) (tN 5) b_distances_2)
  (sRet (eVar 3)))))
noncomputable def F_distances : Fn := mkFn 3 10 b_distances
noncomputable def b_shortest_1 : SFn :=
  (sSeq (sExpr (eMeth isLs mAppend (eVar 3) (aCons (eOp opIx (eOp opIx (eVar 2) (eVar 4)) (eC (.int 2))) aNil)))
  (sSet 4 (eOp opIx (eOp opIx (eOp opIx (eVar 2) (eVar 4)) (eC (.int 2))) (eC (.int 0)))))
noncomputable def b_shortest : SFn :=
  (sSeq (sSet 2 (eCall F_distances (aCons (eVar 0) (aCons (eVar 1) (aCons (eNew (fDisp [((eOp opIx (eVar 0) (eC (.int 1))), (eC (.int 0)))])) aNil)))))
  (sSeq (sIf (tVal (eOp (opIn true) (eOp opIx (eVar 0) (eC (.int 2))) (eVar 2))) (sRet (eC .none)) sNil)
  (sSeq (sSet 3 (eNew (fLst aNil)))
  (sSeq (sSet 4 (eOp opIx (eVar 0) (eC (.int 2))))
  (sSeq (sWhile (tVal (eOp opNotN (eOp opIx (eOp opIx (eVar 2) (eVar 4)) (eC (.int 2))) (eC .none))) b_shortest_1)
  (sRet (eTup (aCons (eOp opIx (eOp opIx (eVar 2) (eOp opIx (eVar 0) (eC (.int 2)))) (eC (.int 0))) (aCons (eVar 3) aNil)))))))))
noncomputable def F_shortest : Fn := mkFn 2 5 b_shortest
noncomputable def b_taken_1 : SFn :=
  (sAugIx (· + ·) (eVar 2) (eOp opIx (eVar 6) (eC (.int 3))) (eIf (tVal (eOp opGt (eOp opIx (eVar 6) (eC (.int 2))) (eC (.int 0)))) (eVar 5) (eNeg (eVar 5))))
noncomputable def b_taken_2 : SFn :=
  (sSeq (sAsg (eVar 4) (tTupT 2 (tgCons (tN 7) (tgCons (tN 8) tgNil))))
  (sSeq (sSet 5 (eCallB cMin1X (aCons (eDat (fComp (srcV (eVar 8)) (tN 6) tTrue (eOp opIx (eVar 6) (eC (.int 4))) [6])) aNil)))
  (sSeq (sFor (srcV (eVar 8)) (tN 6) b_taken_1)
  (sSeq (sAsg (eOp opAdd (eGet2 (eVar 3) (eVar 7) (eC (.int 0))) (eVar 5)) (tIx (eVar 3) (eVar 7)))
  (sSet 4 (eCall F_shortest (aCons (eVar 0) (aCons (eVar 2) aNil))))))))
noncomputable def b_taken : SFn :=
  (sSeq (sSet 2 (eNew (fRep (eDat (fLst (aCons (eC (.int 0)) aNil))) (eCallB cLen (aCons (eOp opIx (eVar 0) (eC (.int 3))) aNil)))))
  (sSeq (sSet 3 (eNew fD0))
  (sSeq (sSet 4 (eCall F_shortest (aCons (eVar 0) (aCons (eVar 2) aNil))))
  (sSeq (sWhile (tAndF (tVal (eOp opNotN (eVar 4) (eC .none))) (tOrF (tVal (eOp opIsN (eVar 1) (eC .none))) (tVal (eOp opLe (eOp opIx (eVar 4) (eC (.int 0))) (eVar 1))))) b_taken_2)
  (sRet (eTup (aCons (eDat (fSortIt 3)) (aCons (eVar 2) aNil))))))))
noncomputable def F_taken : Fn := mkFn 2 9 b_taken
noncomputable def b_found_chains : SFn :=
  (sRet (eOp opIx (eCall F_taken (aCons (eVar 0) (aCons (eC .none) aNil))) (eC (.int 0))))
noncomputable def F_found_chains : Fn := mkFn 1 1 b_found_chains
noncomputable def b_found_short : SFn :=
  (sSeq (sAsg (eTup (aCons (eCall F_found_chains (aCons (eVar 0) aNil)) (aCons (eCall F_found_rows (aCons (eVar 0) aNil)) aNil))) (tTupT 2 (tgCons (tN 1) (tgCons (tN 2) tgNil))))
  (sSeq (sSet 3 (eDat (fComp (srcV (eVar 1)) (tTupT 2 (tgCons (tN 4) (tgCons (tN 5) tgNil))) tTrue (eTup (aCons (eVar 4) (aCons (eOp opSub (eCall F_brought (aCons (eVar 1) (aCons (eVar 4) aNil))) (eCall F_brought (aCons (eVar 2) (aCons (eVar 4) aNil)))) aNil))) [4, 5])))
  (sRet (eMinDef (aCons (eDat (fComp (srcV (eVar 3)) (tN 6) (tVal (eOp opGt (eOp opIx (eVar 6) (eC (.int 1))) (eC (.int 0)))) (eVar 6) [6])) aNil) (eC .none)))))
noncomputable def F_found_short : Fn := mkFn 1 7 b_found_short
noncomputable def b_short_from : SFn :=
  (sSeq (sExpr (eCall F_look_at_web (aCons (eVar 0) aNil)))
  (sRet (eCall F_found_short (aCons (eVar 0) aNil))))
noncomputable def F_short_from : Fn := mkFn 1 1 b_short_from
end L2.HW
namespace L2.HW
open PySem PySem.Spec PyProof.Rows
noncomputable def b_l_word_of : SFn :=
  (sSeq (sSet 1 (eDat (fLst (aCons (eIsE "NoWeb" (eVar 0)) (aCons (eIsE "NoMoment" (eVar 0)) (aCons (eIsE "NoNumber" (eVar 0)) aNil))))))
  (sSeq (sSet 1 (eOp opAdd (eVar 1) (eDat (fLst (aCons (eIsE "NoRoad" (eVar 0)) (aCons (eIsE "NoCut" (eVar 0)) (aCons (eIsE "NoShape" (eVar 0)) aNil)))))))
  (sSeq (sSet 1 (eOp opAdd (eVar 1) (eDat (fLst (aCons (eIsE "NotTree" (eVar 0)) (aCons (eIsE "NotRoad" (eVar 0)) (aCons (eIsE "NoText" (eVar 0)) aNil)))))))
  (sSeq (sSet 1 (eOp opAdd (eVar 1) (eDat (fLst (aCons (eIsE "Unlike" (eVar 0)) (aCons (eIsE "ValueError" (eVar 0)) (aCons (eIsE "HasteError" (eVar 0)) aNil)))))))
  (sSeq (sSet 2 (eDat (fLst (aCons (eC (.str "web")) (aCons (eC (.str "moment")) (aCons (eC (.str "number")) (aCons (eC (.str "road")) (aCons (eC (.str "cut")) (aCons (eC (.str "shape")) (aCons (eC (.str "tree")) (aCons (eC (.str "notroad")) (aCons (eC (.str "text")) (aCons (eC (.str "unlike")) (aCons (eC (.str "value")) (aCons (eC (.str "error")) aNil)))))))))))))))
  (sSeq (sSet 3 (eDat (fComp (srcZ (aCons (eVar 2) (aCons (eVar 1) aNil))) (tTupT 2 (tgCons (tN 4) (tgCons (tN 5) tgNil))) (tVal (eVar 5)) (eVar 4) [4, 5])))
  (sSeq (sIf (tVal (eOp opEq (eVar 3) (eDat (fLst aNil)))) (sRet (eC (.str ""))) sNil)
  (sRet (eOp opIx (eDat (fLst (aCons (eOp opIx (eVar 3) (eC (.int 0))) (aCons (eC (.str "other")) aNil)))) (eCallB cInt (aCons (eOp opNe (eSl (eVar 3) (pSome (eC (.int 1))) pNone) (eDat (fLst (aCons (eC (.str "value")) (aCons (eC (.str "error")) aNil))))) aNil)))))))))))
noncomputable def F_l_word_of : Fn := mkFn 1 6 b_l_word_of
noncomputable def b_l_asked_v2 : SFn :=
  (sSeq (sSet 3 (eCallB cRepr (aCons (eDat (fLst (aCons (eVar 1) (aCons (eVar 2) aNil)))) aNil)))
  (sSeq (sSet 4 (eC .none))
  (sSeq (sTry 5 4 (sIf (tVal (eOp opEq (eVar 0) (eC (.int 0)))) (sExpr (eDat (fCall F_hurried (aCons (eVar 1) aNil)))) (sIf (tVal (eOp opEq (eVar 0) (eC (.int 1)))) (sExpr (eCall F_short_from (aCons (eVar 1) aNil))) (sIf (tVal (eOp opEq (eVar 0) (eC (.int 2)))) (sExpr (eCall F_hurried_most (aCons (eVar 1) (aCons (eVar 2) aNil)))) (sExpr (eCall F_hurried_time (aCons (eVar 1) (aCons (eVar 2) aNil))))))))
  (sSeq (sIf (tVal (eOp opNe (eCallB cRepr (aCons (eDat (fLst (aCons (eVar 1) (aCons (eVar 2) aNil)))) aNil)) (eVar 3))) (sRet (eC (.str "changed"))) sNil)
  (sRet (eCall F_l_word_of (aCons (eVar 4) aNil)))))))
noncomputable def F_l_asked_v2 : Fn := mkFn 3 6 b_l_asked_v2
noncomputable def b_l_bad_moments : SFn :=
  (sRet (eDat (fLst (aCons (eC .none) (aCons (eNeg (eC (.int 1))) (aCons (eC (.bool true)) (aCons (eC (.bool false)) (aCons (eC (.str "0")) (aCons (eTup (aCons (eC (.int 0)) aNil)) (aCons (eDat (fLst (aCons (eC (.int 0)) aNil))) (aCons (eNeg (eOp opPow (eC (.int 10)) (eC (.int 20)))) (aCons (eC (.str "")) aNil))))))))))))
noncomputable def F_l_bad_moments : Fn := mkFn 0 0 b_l_bad_moments
noncomputable def b_l_bad_numbers : SFn :=
  (sRet (eDat (fLst (aCons (eC .none) (aCons (eC (.int 0)) (aCons (eNeg (eC (.int 1))) (aCons (eC (.bool true)) (aCons (eC (.bool false)) (aCons (eC (.str "1")) (aCons (eTup (aCons (eC (.int 1)) aNil)) (aCons (eDat (fLst (aCons (eC (.int 1)) aNil))) (aCons (eNeg (eOp opPow (eC (.int 10)) (eC (.int 20)))) (aCons (eC (.str "")) aNil)))))))))))))
noncomputable def F_l_bad_numbers : Fn := mkFn 0 0 b_l_bad_numbers
noncomputable def b_law_k22_1 : SFn :=
  (sSeq (sSet 4 (eDat (fComp (srcR1 (aCons (eC (.int 4)) aNil)) (tN 5) tTrue (eCall F_l_asked_v2 (aCons (eVar 5) (aCons (eVar 3) (aCons (eC (.int 3)) aNil)))) [5])))
  (sIf (tVal (eOp opNe (eOp opAdd (eVar 4) (eDat (fLst (aCons (eCall F_l_asked_v2 (aCons (eC (.int 2)) (aCons (eVar 3) (aCons (eC .none) aNil)))) (aCons (eCall F_l_asked_v2 (aCons (eC (.int 3)) (aCons (eVar 3) (aCons (eC .none) aNil)))) aNil))))) (eOp opMul (eDat (fLst (aCons (eC (.str "web")) aNil))) (eC (.int 6))))) (sRet (eC (.bool false))) sNil))
noncomputable def b_law_k22_2 : SFn :=
  (sSeq (sSet 2 (eCall F_l_web (aCons (eNew (fCall F_l_pile (aCons (eVar 0) (aCons (eVar 1) aNil)))) (aCons (eC (.int 4)) aNil))))
  (sSeq (sFor (srcV (eCall F_l_bad_webs aNil)) (tN 3) b_law_k22_1)
  (sSeq (sIf (tVal (eOp opNe (eDat (fComp (srcV (eCall F_l_bad_moments aNil)) (tN 3) (tVal (eOp opNe (eCall F_l_asked_v2 (aCons (eC (.int 2)) (aCons (eVar 2) (aCons (eVar 3) aNil)))) (eC (.str "moment")))) (eVar 3) [3])) (eDat (fLst aNil)))) (sRet (eC (.bool false))) sNil)
  (sSeq (sIf (tVal (eOp opNe (eDat (fComp (srcV (eCall F_l_bad_numbers aNil)) (tN 3) (tVal (eOp opNe (eCall F_l_asked_v2 (aCons (eC (.int 3)) (aCons (eVar 2) (aCons (eVar 3) aNil)))) (eC (.str "number")))) (eVar 3) [3])) (eDat (fLst aNil)))) (sRet (eC (.bool false))) sNil)
  (sSeq (sSet 4 (eDat (fLst (aCons (eCall F_l_asked_v2 (aCons (eC (.int 0)) (aCons (eVar 2) (aCons (eC (.int 0)) aNil)))) (aCons (eCall F_l_asked_v2 (aCons (eC (.int 1)) (aCons (eVar 2) (aCons (eC (.int 0)) aNil)))) (aCons (eCall F_l_asked_v2 (aCons (eC (.int 2)) (aCons (eVar 2) (aCons (eC (.int 0)) aNil)))) (aCons (eCall F_l_asked_v2 (aCons (eC (.int 3)) (aCons (eVar 2) (aCons (eC (.int 1)) aNil)))) aNil)))))))
  (sIf (tVal (eOp opNe (eVar 4) (eOp opMul (eDat (fLst (aCons (eC (.str "")) aNil))) (eC (.int 4))))) (sRet (eC (.bool false))) sNil))))))
noncomputable def b_law_k22 : SFn :=
  (sSeq (sFor (srcR1 (aCons (eCallB cMax2 (aCons (eC (.int 2)) (aCons (eCallB cMin2 (aCons (eCallB cLen (aCons (eVar 0) aNil)) (aCons (eC (.int 4)) aNil))) aNil))) aNil)) (tN 1) b_law_k22_2)
  (sRet (eC (.bool true))))
noncomputable def F_law_k22 : Fn := mkFn 1 6 b_law_k22
end L2.HW
namespace L2.HW
open PySem PySem.Spec PyProof.Rows
theorem look_cons {γ : Type} (a : Int) (x : γ) (ks : List (Int × γ)) (j : Int) : alook ((a, x) :: ks) j = if a = j then some x else alook ks j := by
  unfold alook
  rw [List.find?_cons]
  by_cases h : a = j
  · simp [h]
  · simp [h]
theorem look_rep {γ : Type} (k j : Int) (v : γ) : ∀ ks : List (Int × γ), alook (ks.map fun kv => if kv.1 = k then (kv.1, v) else kv) j = if j = k then (alook ks k).map (fun _ => v) else alook ks j
  | [] => by unfold alook; simp
  | (a, x) :: ks => by
    rw [List.map_cons]
    have ih := look_rep k j v ks
    by_cases ha : a = k
    · subst ha
      simp only [if_true, look_cons, ih]
      by_cases hj : j = a
      · subst hj; simp
      · have : ¬ a = j := fun z => hj z.symm
        simp [hj, this]
    · simp only [if_neg ha, look_cons, ih]
      by_cases hj : j = k
      · subst hj; simp [ha]
      · simp [hj]
theorem look_none {γ : Type} {k : Int} {ks : List (Int × γ)} (h : ¬ ks.any (fun kv => decide (kv.1 = k)) = true) : alook ks k = none := by
  unfold alook
  have : ks.find? (fun kv => decide (kv.1 = k)) = none := by
    rw [List.find?_eq_none]
    intro x hx hk
    exact h (List.any_eq_true.mpr ⟨x, hx, hk⟩)
  rw [this]; rfl
theorem look_some {γ : Type} {k : Int} {ks : List (Int × γ)} (h : ks.any (fun kv => decide (kv.1 = k)) = true) : ∃ x, alook ks k = some x := by
  unfold alook
  cases e : ks.find? (fun kv => decide (kv.1 = k)) with
  | none =>
    obtain ⟨x, hx, hk⟩ := List.any_eq_true.mp h
    exact absurd hk (List.find?_eq_none.mp e x hx)
  | some x => exact ⟨_, rfl⟩
theorem look_app {γ : Type} (ks : List (Int × γ)) (k j : Int) (v : γ) : alook (ks ++ [(k, v)]) j = match alook ks j with | some x => some x | none => if j = k then some v else none := by
  induction ks with
  | nil =>
    rw [List.nil_append, look_cons]
    by_cases h : k = j
    · simp [h, alook]
    · have : ¬ j = k := fun z => h z.symm
      simp [h, this, alook]
  | cons p ks ih =>
    obtain ⟨a, x⟩ := p
    rw [List.cons_append, look_cons, look_cons, ih]
    by_cases h : a = j
    · simp [h]
    · simp [h]
theorem alook_aput {γ : Type} (ks : List (Int × γ)) (k j : Int) (v : γ) : alook (aput ks k v) j = if j = k then some v else alook ks j := by
  unfold aput tIx.aput
  split
  · rename_i h
    rw [look_rep]
    obtain ⟨x, hx⟩ := look_some h
    by_cases hj : j = k
    · simp [hj, hx]
    · simp [hj]
  · rename_i h
    rw [look_app]
    by_cases hj : j = k
    · subst hj; simp [look_none h]
    · simp only [if_neg hj]
      cases alook ks j <;> rfl
structure BF (γ Arc : Type) where
  tl : Arc → Int
  hd : Arc → Int
  ext : γ → Arc → γ
  le : γ → γ → Bool
structure BF.Ok {γ Arc : Type} (B : BF γ Arc) : Prop where
  refl : ∀ x, B.le x x = true
  trans : ∀ {x y z}, B.le x y = true → B.le y z = true → B.le x z = true
  total : ∀ x y, B.le x y = true ∨ B.le y x = true
  mono : ∀ {x y} a, B.le x y = true → B.le (B.ext x a) (B.ext y a) = true
namespace BF
variable {γ Arc : Type} (B : BF γ Arc)
def rel (ks : List (Int × γ)) (a : Arc) : List (Int × γ) := match alook ks (B.tl a) with
  | none => ks
  | some x => match alook ks (B.hd a) with
    | none => aput ks (B.hd a) (B.ext x a)
    | some y => if B.le y (B.ext x a) then ks else aput ks (B.hd a) (B.ext x a)
def round (A : List Arc) (ks : List (Int × γ)) : List (Int × γ) := A.foldl B.rel ks
def run (A : List Arc) : Nat → List (Int × γ) → List (Int × γ)
  | 0, ks => ks
  | n + 1, ks => run A n (B.round A ks)
def Low (ks ks' : List (Int × γ)) : Prop := ∀ k y, alook ks k = some y → ∃ y', alook ks' k = some y' ∧ B.le y' y = true
def pth (A : List Arc) : Int → List Arc → Int → Prop
  | a, [], b => a = b
  | a, c :: p, b => c ∈ A ∧ B.tl c = a ∧ pth A (B.hd c) p b
def ev (z : γ) (p : List Arc) : γ := p.foldl B.ext z
variable {B}
theorem Low.refl (o : B.Ok) (ks : List (Int × γ)) : B.Low ks ks := fun _ y h => ⟨y, h, o.refl y⟩
theorem Low.trans (o : B.Ok) {a b c : List (Int × γ)} (h : B.Low a b) (k : B.Low b c) : B.Low a c := fun j y e => by
  obtain ⟨y1, e1, l1⟩ := h j y e
  obtain ⟨y2, e2, l2⟩ := k j y1 e1
  exact ⟨y2, e2, o.trans l2 l1⟩
theorem rel_low (o : B.Ok) (ks : List (Int × γ)) (a : Arc) : B.Low ks (B.rel ks a) := by
  intro k y h
  unfold rel
  split
  · exact ⟨y, h, o.refl y⟩
  · rename_i x hx
    split
    · rename_i hn
      have : k ≠ B.hd a := fun z => by rw [z, hn] at h; cases h
      exact ⟨y, by rw [alook_aput, if_neg this]; exact h, o.refl y⟩
    · rename_i y' hy
      split
      · exact ⟨y, h, o.refl y⟩
      · rename_i hl
        by_cases z : k = B.hd a
        · rw [alook_aput, if_pos z]
          rw [z, hy] at h
          cases h
          exact ⟨_, rfl, (o.total _ _).resolve_left hl⟩
        · exact ⟨y, by rw [alook_aput, if_neg z]; exact h, o.refl y⟩
theorem rel_arc (o : B.Ok) {ks : List (Int × γ)} {a : Arc} {x : γ} (h : alook ks (B.tl a) = some x) : ∃ y, alook (B.rel ks a) (B.hd a) = some y ∧ B.le y (B.ext x a) = true := by
  unfold rel
  rw [h]
  simp only
  split
  · exact ⟨_, by rw [alook_aput, if_pos rfl], o.refl _⟩
  · rename_i y hy
    split
    · rename_i hl; exact ⟨y, hy, hl⟩
    · exact ⟨_, by rw [alook_aput, if_pos rfl], o.refl _⟩
theorem round_low (o : B.Ok) : ∀ (A : List Arc) (ks : List (Int × γ)), B.Low ks (B.round A ks)
  | [], ks => Low.refl o ks
  | a :: A, ks => Low.trans o (rel_low o ks a) (round_low o A _)
theorem run_low (o : B.Ok) (A : List Arc) : ∀ (n : Nat) (ks : List (Int × γ)), B.Low ks (B.run A n ks)
  | 0, ks => Low.refl o ks
  | n + 1, ks => Low.trans o (round_low o A ks) (run_low o A n _)
theorem round_arc (o : B.Ok) {a : Arc} {x : γ} : ∀ {A : List Arc} {ks : List (Int × γ)}, a ∈ A → alook ks (B.tl a) = some x → ∃ y, alook (B.round A ks) (B.hd a) = some y ∧ B.le y (B.ext x a) = true
  | c :: A, ks, ha, h => by
    rcases List.mem_cons.mp ha with rfl | ha
    · obtain ⟨y, e, l⟩ := rel_arc o h
      obtain ⟨y', e', l'⟩ := round_low o A _ _ y e
      exact ⟨y', e', o.trans l' l⟩
    · obtain ⟨x', e, l⟩ := rel_low o ks c _ x h
      obtain ⟨y, e1, l1⟩ := round_arc o ha e
      exact ⟨y, e1, o.trans l1 (o.mono a l)⟩
theorem ev_mono (o : B.Ok) : ∀ (p : List Arc) {x y : γ}, B.le x y = true → B.le (B.ev x p) (B.ev y p) = true
  | [], _, _, h => h
  | a :: p, _, _, h => ev_mono o p (o.mono a h)
theorem run_path (o : B.Ok) {A : List Arc} {b : Int} : ∀ (p : List Arc) {n : Nat} {ks : List (Int × γ)} {a : Int} {z : γ}, alook ks a = some z → B.pth A a p b → p.length ≤ n → ∃ y, alook (B.run A n ks) b = some y ∧ B.le y (B.ev z p) = true
  | [], n, ks, a, z, h, hp, _ => by
    obtain ⟨y, e, l⟩ := run_low o A n ks a z h
    cases hp
    exact ⟨y, e, l⟩
  | c :: p, 0, _, _, _, _, _, hn => by simp at hn
  | c :: p, n + 1, ks, a, z, h, hp, hn => by
    obtain ⟨h1, rfl, h2⟩ := hp
    obtain ⟨y, e, l⟩ := round_arc o h1 h
    obtain ⟨y', e', l'⟩ := run_path o p e h2 (by simpa using hn)
    exact ⟨y', e', o.trans l' (ev_mono o p l)⟩
theorem rel_inv {P : Int → γ → Prop} {ks : List (Int × γ)} {a : Arc} (hs : ∀ x, P (B.tl a) x → P (B.hd a) (B.ext x a)) (h : ∀ k y, alook ks k = some y → P k y) : ∀ k y, alook (B.rel ks a) k = some y → P k y := by
  intro k y e
  unfold rel at e
  split at e
  · exact h k y e
  · rename_i x hx
    have put : ∀ k y, alook (aput ks (B.hd a) (B.ext x a)) k = some y → P k y := by
      intro k y e
      rw [alook_aput] at e
      split at e
      · rename_i z; cases e; rw [z]; exact hs x (h _ _ hx)
      · exact h k y e
    split at e
    · exact put k y e
    · split at e
      · exact h k y e
      · exact put k y e
theorem round_inv {P : Int → γ → Prop} : ∀ {A : List Arc} {ks : List (Int × γ)}, (∀ a ∈ A, ∀ x, P (B.tl a) x → P (B.hd a) (B.ext x a)) → (∀ k y, alook ks k = some y → P k y) → ∀ k y, alook (B.round A ks) k = some y → P k y
  | [], _, _, h => h
  | a :: A, ks, hs, h => round_inv (A := A) (fun c hc => hs c (List.mem_cons_of_mem _ hc)) (rel_inv (hs a List.mem_cons_self) h)
theorem run_inv {P : Int → γ → Prop} {A : List Arc} (hs : ∀ a ∈ A, ∀ x, P (B.tl a) x → P (B.hd a) (B.ext x a)) : ∀ {n : Nat} {ks : List (Int × γ)}, (∀ k y, alook ks k = some y → P k y) → ∀ k y, alook (B.run A n ks) k = some y → P k y
  | 0, _, h => h
  | n + 1, _, h => run_inv hs (n := n) (round_inv hs h)
theorem pth_app {A : List Arc} {b c : Int} {q : List Arc} : ∀ {p : List Arc} {a : Int}, B.pth A a p b → B.pth A b q c → B.pth A a (p ++ q) c
  | [], _, h, k => by cases h; exact k
  | x :: p, a, ⟨h1, h2, h3⟩, k => ⟨h1, h2, pth_app h3 k⟩
theorem ev_app (z : γ) (p q : List Arc) : B.ev z (p ++ q) = B.ev (B.ev z p) q := List.foldl_append
theorem run_sound {A : List Arc} {n : Nat} {ks : List (Int × γ)} {k : Int} {y : γ} (h : alook (B.run A n ks) k = some y) : ∃ a z p, alook ks a = some z ∧ B.pth A a p k ∧ y = B.ev z p := by
  refine run_inv (P := fun k y => ∃ a z p, alook ks a = some z ∧ B.pth A a p k ∧ y = B.ev z p) ?_ ?_ k y h
  · rintro c hc x ⟨a, z, p, h1, h2, rfl⟩
    exact ⟨a, z, p ++ [c], h1, pth_app h2 ⟨hc, rfl, rfl⟩, by rw [ev_app]; rfl⟩
  · intro k y e
    exact ⟨k, y, [], e, rfl, rfl⟩
end BF
theorem nodup_few : ∀ {m : Nat} {l : List Int}, l.Nodup → (∀ x ∈ l, 0 ≤ x ∧ x < m) → l.length ≤ m
  | 0, [], _, _ => Nat.le_refl _
  | 0, x :: l, _, h => by have := h x List.mem_cons_self; omega
  | m + 1, l, hn, h => by
    have h1 : (l.erase (m : Int)).Nodup := hn.erase _
    have h2 : ∀ x ∈ l.erase (m : Int), 0 ≤ x ∧ x < m := by
      intro x hx
      have h3 := (List.Nodup.mem_erase_iff hn).mp hx
      have := h x h3.2
      have h4 := h3.1
      omega
    have h5 := nodup_few h1 h2
    by_cases hm : (m : Int) ∈ l
    · rw [List.length_erase_of_mem hm] at h5; omega
    · rw [List.erase_of_not_mem hm] at h5; omega
namespace BF
variable {γ Arc : Type} {B : BF γ Arc}
def plc (B : BF γ Arc) (a : Int) (p : List Arc) : List Int := a :: p.map B.hd
theorem split_at {A : List Arc} {b x : Int} : ∀ {p : List Arc} {a : Int}, B.pth A a p b → x ∈ B.plc a p → ∃ s t, p = s ++ t ∧ B.pth A a s x ∧ B.pth A x t b
  | [], a, h, hx => by
    have : x = a := by simpa [plc] using hx
    subst this
    exact ⟨[], [], rfl, rfl, h⟩
  | c :: p, a, ⟨h1, h2, h3⟩, hx => by
    by_cases e : x = a
    · subst e
      exact ⟨[], c :: p, rfl, rfl, h1, h2, h3⟩
    · have hx' : x ∈ B.plc (B.hd c) p := by
        rcases List.mem_cons.mp hx with z | z
        · exact absurd z e
        · exact z
      obtain ⟨s, t, rfl, h4, h5⟩ := split_at h3 hx'
      exact ⟨c :: s, t, rfl, ⟨h1, h2, h4⟩, h5⟩
theorem cut_or {A : List Arc} {b : Int} : ∀ {p : List Arc} {a : Int}, B.pth A a p b → (B.plc a p).Nodup ∨ ∃ p1 p2 p3 q, p = p1 ++ (p2 ++ p3) ∧ p2 ≠ [] ∧ B.pth A a p1 q ∧ B.pth A q p2 q ∧ B.pth A q p3 b
  | [], a, h => .inl (by simp [plc])
  | c :: p, a, ⟨h1, h2, h3⟩ => by
    rcases cut_or h3 with h | ⟨p1, p2, p3, q, rfl, n, k1, k2, k3⟩
    · by_cases e : a ∈ B.plc (B.hd c) p
      · obtain ⟨s, t, rfl, h4, h5⟩ := split_at h3 e
        exact .inr ⟨[], c :: s, t, a, rfl, by simp, rfl, ⟨h1, h2, h4⟩, h5⟩
      · exact .inl (List.nodup_cons.mpr ⟨e, h⟩)
    · exact .inr ⟨c :: p1, p2, p3, q, rfl, n, ⟨h1, h2, k1⟩, k2, k3⟩
theorem pth_mem {A : List Arc} {b : Int} : ∀ {p : List Arc} {a : Int}, B.pth A a p b → ∀ c ∈ p, c ∈ A
  | c :: p, a, ⟨h1, h2, h3⟩, x, hx => by
    rcases List.mem_cons.mp hx with rfl | hx
    · exact h1
    · exact pth_mem h3 x hx
def Cyc (B : BF γ Arc) (A : List Arc) : Prop := ∀ q p z, B.pth A q p q → B.le z (B.ev z p) = true
theorem short_path (o : B.Ok) {A : List Arc} {m : Nat} (cy : B.Cyc A) (hA : ∀ c ∈ A, 0 ≤ B.hd c ∧ B.hd c < m) {a b : Int} (ha : 0 ≤ a ∧ a < m) (z : γ) : ∀ (n : Nat) (p : List Arc), p.length ≤ n → B.pth A a p b → ∃ p', B.pth A a p' b ∧ p'.length ≤ m ∧ B.le (B.ev z p') (B.ev z p) = true ∧ (B.plc a p').Nodup := by
  intro n
  induction n with
  | zero =>
    intro p hl h
    have : p = [] := List.length_eq_zero_iff.mp (by omega)
    subst this
    exact ⟨[], h, by simp, o.refl _, by simp [plc]⟩
  | succ n ih =>
    intro p hl h
    rcases cut_or h with nd | ⟨p1, p2, p3, q, rfl, ne, k1, k2, k3⟩
    · refine ⟨p, h, ?_, o.refl _, nd⟩
      have := nodup_few nd (m := m) (by
        intro x hx
        rcases List.mem_cons.mp hx with rfl | hx
        · exact ha
        · obtain ⟨c, hc, rfl⟩ := List.mem_map.mp hx
          exact hA c (pth_mem h c hc))
      simp [plc] at this
      omega
    · have hl2 : 0 < p2.length := List.length_pos_iff.mpr ne
      obtain ⟨p', h1, h2, h3, h4⟩ := ih (p1 ++ p3) (by simp at hl ⊢; omega) (pth_app k1 k3)
      refine ⟨p', h1, h2, o.trans h3 ?_, h4⟩
      rw [ev_app, ev_app, ev_app]
      exact ev_mono o p3 (cy q p2 _ k2)
theorem run_all (o : B.Ok) {A : List Arc} {m n : Nat} (cy : B.Cyc A) (hA : ∀ c ∈ A, 0 ≤ B.hd c ∧ B.hd c < m) {ks : List (Int × γ)} (hk : ∀ k y, alook ks k = some y → 0 ≤ k ∧ k < m) (hn : m ≤ n) {a b : Int} {z : γ} {p : List Arc} (h : alook ks a = some z) (hp : B.pth A a p b) :
    ∃ y, alook (B.run A n ks) b = some y ∧ B.le y (B.ev z p) = true := by
  obtain ⟨p', h1, h2, h3, _⟩ := short_path o cy hA (hk a z h) z _ p (Nat.le_refl _) hp
  obtain ⟨y, e, l⟩ := run_path o p' h h1 (by omega : p'.length ≤ n)
  exact ⟨y, e, o.trans l h3⟩
theorem run_fix (o : B.Ok) {A : List Arc} {m n : Nat} (cy : B.Cyc A) (hA : ∀ c ∈ A, 0 ≤ B.hd c ∧ B.hd c < m) {ks : List (Int × γ)} (hk : ∀ k y, alook ks k = some y → 0 ≤ k ∧ k < m) (hn : m ≤ n) {c : Arc} (hc : c ∈ A) {x : γ} (h : alook (B.run A n ks) (B.tl c) = some x) :
    ∃ y, alook (B.run A n ks) (B.hd c) = some y ∧ B.le y (B.ext x c) = true := by
  obtain ⟨a, z, p, h1, h2, rfl⟩ := run_sound h
  have hp : B.pth A (B.tl c) [c] (B.hd c) := ⟨hc, rfl, rfl⟩
  obtain ⟨y, e, l⟩ := run_all o cy hA hk hn h1 (pth_app h2 hp)
  rw [ev_app] at l
  exact ⟨y, e, l⟩
end BF
end L2.HW
namespace L2.HW
open PySem PySem.Spec PyProof.Rows
@[simp] theorem openOut_nx (lk : Option Nat) (L0 L : LH) (env : En) : openOut lk L0 (.nx env L) = .nx env (openL lk L0 L) := (rfl)
@[simp] theorem openOut_rt (lk : Option Nat) (L0 L : LH) (w : Va) : openOut lk L0 (.rt w L) = .rt w (openL lk L0 L) := (rfl)
mutual
def fine : PyData → Bool
  | .none => true
  | .bool _ => true
  | .int i => decide (i.natAbs.log2 < 1920)
  | .str x => PyData.strOk x
  | .list xs => fineAll xs
  | .tuple xs => fineAll xs
  | .dict _ => false
def fineAll : List PyData → Bool
  | [] => true
  | x :: xs => fine x && fineAll xs
end
theorem fineAll_iff : ∀ {xs : List PyData}, fineAll xs = true ↔ ∀ x ∈ xs, fine x = true
  | [] => by simp [fineAll]
  | x :: xs => by simp [fineAll, fineAll_iff (xs := xs)]
mutual
theorem fine_show : ∀ x : PyData, fine x = true → x.showable = true ∧ x.canLay0 = true ∧ x.leavesShort 1921 = true
  | .none, _ => by simp [PyData.showable, PyData.canLay0, PyData.leavesShort]
  | .bool _, _ => by simp [PyData.showable, PyData.canLay0, PyData.leavesShort]
  | .int i, h => by
    have h : i.natAbs.log2 < 1920 := by simpa [fine] using h
    refine ⟨by simpa [PyData.showable] using h, by simp [PyData.canLay0], ?_⟩
    simp only [PyData.leavesShort, PyData.shown]
    exact decide_eq_true (int_text_len_1921 h)
  | .str x, h => by
    have h : PyData.strOk x = true := by simpa [fine] using h
    refine ⟨by simp [PyData.showable], by simpa [PyData.canLay0] using h, ?_⟩
    simp only [PyData.leavesShort, List.all_eq_true, decide_eq_true_eq]
    intro c hc
    unfold PyData.strOk at h
    rw [Array.all_eq_true_iff_forall_mem] at h
    have := h c (by simpa using hc)
    have : c < 0x110000 := by simpa using this
    omega
  | .list xs, h => by
    obtain ⟨h1, h2, h3⟩ := fines_show xs (by simpa [fine] using h)
    exact ⟨by simpa [PyData.showable] using h1, by simpa [PyData.canLay0] using h2, by simpa [PyData.leavesShort] using h3⟩
  | .tuple xs, h => by
    obtain ⟨h1, h2, h3⟩ := fines_show xs (by simpa [fine] using h)
    exact ⟨by simpa [PyData.showable] using h1, by simpa [PyData.canLay0] using h2, by simpa [PyData.leavesShort] using h3⟩
  | .dict _, h => by simp [fine] at h
theorem fines_show : ∀ x : List PyData, fineAll x = true → PyData.showableAll x = true ∧ PyData.canLayAll0 x = true ∧ PyData.leavesShortAll 1921 x = true
  | [], _ => by simp [PyData.showableAll, PyData.canLayAll0, PyData.leavesShortAll]
  | x :: xs, h => by
    have h : fine x = true ∧ fineAll xs = true := by simpa [fineAll] using h
    obtain ⟨h1, h2, h3⟩ := fine_show x h.1
    obtain ⟨k1, k2, k3⟩ := fines_show xs h.2
    simp [PyData.showableAll, PyData.canLayAll0, PyData.leavesShortAll, h1, h2, h3, k1, k2, k3]
end
theorem okShow_of {x : PyData} (h : fine x = true) (hd : x.depth < 180) (hb : x.bulk ≤ 8000) : okShow x := by
  obtain ⟨h1, h2, h3⟩ := fine_show x h
  refine ⟨h1, hd, ?_⟩
  have := PyData.shown_le_bulk 1921 (by decide) x h3
  rw [sizeLine_eq]
  omega
theorem shaped_of {x : PyData} (h : fine x = true) (hd : x.depth ≤ 64) : SeqAt.shaped x = true := by
  obtain ⟨h1, h2, h3⟩ := fine_show x h
  simp [SeqAt.shaped, h2, hd]
theorem len_bulk : ∀ xs : List PyData, xs.length ≤ PyData.bulkAll xs
  | [] => by simp [PyData.bulkAll]
  | x :: xs => by have := len_bulk xs; simp [PyData.bulkAll]; omega
theorem depthAll_le {n : Nat} : ∀ {xs : List PyData}, PyData.depthAll xs ≤ n ↔ ∀ x ∈ xs, x.depth ≤ n
  | [] => by simp [PyData.depthAll]
  | x :: xs => by simp [PyData.depthAll, depthAll_le (xs := xs), Nat.max_le]
theorem eqv_int (i j : Int) : PyData.eqv (.int i) (.int j) = decide (i = j) := by
  by_cases h : i = j <;> simp [PyData.eqv, h]
@[simp] theorem dget_d (L : LH) (x : PyData) (u : Va) : Va.dget L (.d x) u = none := by
  unfold Va.dget
  split <;> first | rfl | (rename_i h; cases h) | (rename_i h _; cases h)
@[simp] theorem dget_scr (L : LH) (x : List Int) (u : Va) : Va.dget L (.scr x) u = none := by
  unfold Va.dget
  split <;> first | rfl | (rename_i h; cases h) | (rename_i h _; cases h)
@[simp] theorem seq_scr (L : LH) (ns : List Int) : (Va.scr ns).seq L = some (ns.map fun i => .d (.int i)) := (rfl)
theorem forL_inv {g : Va → En → LH → Res En} {body : SFn} {I : List Va → En → LH → Prop} : ∀ (ws : List Va) (env : En) (L : LH), I ws env L →
    (∀ w r env L, I (w :: r) env L → ∃ env1 L1, g w env L = .ok env1 L1 ∧ ∃ env2 L2, (body env1 L1 = .nx env2 L2 ∨ body env1 L1 = .ct env2 L2) ∧ I r env2 L2) → ∃ env' L', forL g body ws env L = .nx env' L' ∧ I [] env' L'
  | [], env, L, h, _ => ⟨env, L, rfl, h⟩
  | w :: ws, env, L, h, k => by
    obtain ⟨env1, L1, e1, env2, L2, e2, h2⟩ := k w ws env L h
    obtain ⟨env', L', e3, h3⟩ := forL_inv ws env2 L2 h2 k
    refine ⟨env', L', ?_, h3⟩
    unfold forL
    rw [e1]
    rcases e2 with e2 | e2 <;> simp only [e2] <;> exact e3
theorem compL_data {g : Va → En → LH → Res En} {t : En → LH → Res Bool} {f : EF} {env : En} {L : LH} (p : PyData → Bool) (h : PyData → PyData) : ∀ (xs : List PyData),
    (∀ x ∈ xs, ∃ env1, g (.d x) env L = .ok env1 L ∧ t env1 L = .ok (p x) L ∧ (p x = true → f env1 L = .ok (.d (h x)) L)) →
    compL g t f (xs.map Va.d) env L = .ok (((xs.filter p).map h).map Va.d) L
  | [], _ => rfl
  | x :: xs, k => by
    obtain ⟨env1, e1, e2, e3⟩ := k x List.mem_cons_self
    have ih := compL_data (g := g) (t := t) (f := f) (env := env) (L := L) p h xs fun y hy => k y (List.mem_cons_of_mem _ hy)
    rw [List.map_cons]
    unfold compL
    rw [e1]
    simp only [e2]
    cases hp : p x with
    | true => simp [e3 hp, ih, hp]
    | false => simp [ih, hp]
theorem fComp_data {s : Srcf} {g : Va → En → LH → Res En} {t : En → LH → Res Bool} {f : EF} {vs : List Nat} {env : En} {L : LH} {xs : List PyData} (p : PyData → Bool) (h : PyData → PyData)
    (hs : s env L = .ok (xs.map Va.d, none) L) (hz : xs.length ≤ sizeLine) (k : ∀ x ∈ xs, ∃ env1, g (.d x) (wipeE env vs) L = .ok env1 L ∧ t env1 L = .ok (p x) L ∧ (p x = true → f env1 L = .ok (.d (h x)) L)) :
    fComp s g t f vs env L = .ok (.lst (((xs.filter p).map h).map Va.d)) L := by
  unfold fComp
  rw [hs]
  simp only [Res.bind_ok, List.length_map, if_pos hz, lockL_none]
  rw [compL_data p h xs k]
  simp
@[simp] theorem va_comp {α : Type} (h : α → PyData) (xs : List α) : (Ob.lst (xs.map (Va.d ∘ h))).va = some (.d (.list (xs.map h))) := by
  rw [← List.map_map]; exact va_lst _
@[simp] theorem va_comp' {α : Type} (h : α → PyData) (xs : List α) : (Ob.lst (xs.map fun x => Va.d (h x))).va = some (.d (.list (xs.map h))) := va_comp h xs
theorem fComp_map {s : Srcf} {g : Va → En → LH → Res En} {f : EF} {vs : List Nat} {env : En} {L : LH} {xs : List PyData} (h : PyData → PyData)
    (hs : s env L = .ok (xs.map Va.d, none) L) (hz : xs.length ≤ sizeLine) (k : ∀ x ∈ xs, ∃ env1, g (.d x) (wipeE env vs) L = .ok env1 L ∧ f env1 L = .ok (.d (h x)) L) :
    fComp s g tTrue f vs env L = .ok (.lst ((xs.map h).map Va.d)) L := by
  have := fComp_data (s := s) (g := g) (t := tTrue) (f := f) (vs := vs) (env := env) (L := L) (xs := xs) (fun _ => true) h hs hz fun x hx => by
    obtain ⟨e, h1, h2⟩ := k x hx
    exact ⟨e, h1, rfl, fun _ => h2⟩
  rwa [List.filter_eq_self.mpr (fun _ _ => rfl)] at this
theorem fComp_filter {s : Srcf} {g : Va → En → LH → Res En} {t : En → LH → Res Bool} {f : EF} {vs : List Nat} {env : En} {L : LH} {xs : List PyData} (p : PyData → Bool)
    (hs : s env L = .ok (xs.map Va.d, none) L) (hz : xs.length ≤ sizeLine) (k : ∀ x ∈ xs, ∃ env1, g (.d x) (wipeE env vs) L = .ok env1 L ∧ t env1 L = .ok (p x) L ∧ f env1 L = .ok (.d x) L) :
    fComp s g t f vs env L = .ok (.lst ((xs.filter p).map Va.d)) L := by
  have := fComp_data (s := s) (g := g) (t := t) (f := f) (vs := vs) (env := env) (L := L) (xs := xs) p _root_.id hs hz fun x hx => by
    obtain ⟨e, h1, h2, h3⟩ := k x hx
    exact ⟨e, h1, h2, fun _ => h3⟩
  simpa using this
@[simp] theorem va_nil : (Ob.lst []).va = some (.d (.list [])) := (rfl)
abbrev P1 (p : Int) : Option Ob := some (.lst [.d (.int p)])
theorem kept_set {L g : LH} {n : Nat} {p p' : Int} (hn : n < L.length) : Kept (L.set n (P1 p)) ((L ++ g).set n (P1 p')) := by
  intro k hk
  rw [List.length_set] at hk
  by_cases h : k = n
  · subst h
    exact .inr ⟨_, List.getElem?_set_self (by simp; omega), by simp [Ob.low, lows]⟩
  · left
    rw [List.getElem?_set_ne (Ne.symm h), List.getElem?_set_ne (Ne.symm h), List.getElem?_append_left hk]
theorem outV_set {L g : LH} {n : Nat} {p p' : Int} (w : Va) (hn : n < L.length) : outV (L.set n (P1 p)) ((L ++ g).set n (P1 p')) (some w) = .ok w (L.set n (P1 p')) := by
  unfold outV
  simp only [if_pos (kept_set hn), List.length_set]
  rw [List.set_append_left _ _ hn, List.take_left' (by simp)]
theorem outV_set0 {L : LH} {n : Nat} {p p' : Int} (w : Va) (hn : n < L.length) : outV (L.set n (P1 p)) (L.set n (P1 p')) (some w) = .ok w (L.set n (P1 p')) := by
  have := outV_set (g := []) (p := p) (p' := p') w hn
  rwa [List.append_nil] at this
theorem set_app {L g : LH} {n : Nat} {o : Option Ob} (hn : n < L.length) : L.set n o ++ g = (L ++ g).set n o := (List.set_append_left _ _ hn).symm
theorem get_pile {L : LH} {n : Nat} {p : Int} (hn : n < L.length) : (L.set n (P1 p))[n]? = some (P1 p) := List.getElem?_set_self hn
theorem get_top {L : LH} {n : Nat} {p : Int} {o : Option Ob} (hn : n < L.length) : ((L ++ [o]).set n (P1 p))[L.length]? = some o := by
  rw [List.getElem?_set_ne (by omega), List.getElem?_append_right (Nat.le_refl _)]; simp
theorem set_top {L : LH} {n : Nat} {p : Int} {o o' : Option Ob} (hn : n < L.length) : ((L ++ [o]).set n (P1 p)).set L.length o' = (L ++ [o']).set n (P1 p) := by
  rw [List.set_comm _ _ (by omega), List.set_append_right _ _ (Nat.le_refl _)]; simp
theorem get_top' {L : LH} {n : Nat} {p : Int} {o : Option Ob} (hn : n < L.length) (h : L.length < ((L ++ [o]).set n (P1 p)).length) : ((L ++ [o]).set n (P1 p))[L.length]'h = o := by
  have := get_top (p := p) (o := o) hn
  rw [List.getElem?_eq_getElem h] at this
  exact Option.some.inj this
theorem rng_ok {c : Int} (h : 0 ≤ c) (h2 : c ≤ 1000000) : -4611686018427387904 ≤ c ∧ c < 4611686018427387904 := by omega
theorem outV_set' {L g : LH} {n : Nat} {p p' : Int} (w : Va) (hn : n < L.length) : outV (L.set n (P1 p)) (L.set n (P1 p') ++ g) (some w) = .ok w (L.set n (P1 p')) := by
  rw [set_app hn]; exact outV_set w hn
@[simp] theorem u_mkTup (ws : List Va) : mkTup ws = match datas ws with
  | some xs => .d (.tuple xs)
  | none => .tup ws := rfl
@[simp] theorem u_va (ws : List Va) : (Ob.lst ws).va = (datas ws).map fun xs => .d (.list xs) := (rfl)
@[simp] theorem datas_comp {α : Type} (h : α → PyData) (xs : List α) : datas (xs.map (Va.d ∘ h)) = some (xs.map h) := by
  rw [← List.map_map]; exact datas_map _
@[simp] theorem datas_comp' {α : Type} (h : α → PyData) (xs : List α) : datas (xs.map fun x => Va.d (h x)) = some (xs.map h) := datas_comp h xs
@[simp] theorem cmpOk_str (a b : Str) : cmpOk (.str a) (.str b) = true := (rfl)
theorem cmpOk_of {x y : PyData} (h : SeqAt.shaped x = true) (k : SeqAt.shaped y = true) : cmpOk x y = true := by simp [cmpOk, h, k]
@[simp] theorem cmpOk_int (a b : Int) : cmpOk (.int a) (.int b) = true := cmpOk_of (by simp [SeqAt.shaped, PyData.canLay0, PyData.depth]) (by simp [SeqAt.shaped, PyData.canLay0, PyData.depth])
@[simp] theorem cmpOk_bool (a b : Bool) : cmpOk (.bool a) (.bool b) = true := cmpOk_of (by simp [SeqAt.shaped, PyData.canLay0, PyData.depth]) (by simp [SeqAt.shaped, PyData.canLay0, PyData.depth])
@[simp] theorem outV_nil (L : LH) (w : Va) : outV [] L (some w) = .ok w [] := by
  have : Kept [] L := fun n h => by simp at h
  simp [outV, this]
theorem cMin2_eq (i j : Int) (L : LH) : cMin2 [.d (.int i), .d (.int j)] L = .ok (.d (.int (min i j))) L := by
  simp only [u_cMin2]
  congr 3
  by_cases h : j < i
  · rw [if_pos h]; omega
  · rw [if_neg h]; omega
theorem cMax2_eq (i j : Int) (L : LH) : cMax2 [.d (.int i), .d (.int j)] L = .ok (.d (.int (max i j))) L := by
  simp only [u_cMax2]
  congr 3
  by_cases h : j > i
  · rw [if_pos h]; omega
  · rw [if_neg h]; omega
@[simp] theorem outV_self (L : LH) (w : Va) : outV L L (some w) = .ok w L := by simp [outV]
@[simp] theorem outV_app (L g : LH) (w : Va) : outV L (L ++ g) (some w) = .ok w L := by simp [outV]
end L2.HW
namespace L2.HW
open PySem PySem.Spec PyProof.Rows
theorem take_ex {L : LH} {n : Nat} {p s : Int} (hn : n < L.length) (hs : 0 < s) (hl : s.natAbs.log2 < 9000 := by decide) :
    ∃ u p' : Int, 0 ≤ u ∧ u < s ∧ F_l_take [.loc n, .d (.int s)] (L.set n (P1 p)) = .ok (.d (.int u)) (L.set n (P1 p')) := by
  refine ⟨p % s, p / s, Int.emod_nonneg _ (by omega), Int.emod_lt_of_pos _ hs, ?_⟩
  have hg := get_pile (L := L) (p := p) hn
  simp [F_l_take, b_l_take, mkFn, Va.dget, Va.seq, hg, atI, ixN, modC, divC, hs, hl, outV_set0, hn]
theorem take_cell {L : LH} {n : Nat} {p s : Int} {o : Option Ob} (hn : n < L.length) (hs : 0 < s) (hl : s.natAbs.log2 < 9000 := by decide) :
    ∃ u p' : Int, 0 ≤ u ∧ u < s ∧ F_l_take [.loc n, .d (.int s)] ((L ++ [o]).set n (P1 p)) = .ok (.d (.int u)) ((L ++ [o]).set n (P1 p')) := take_ex (by simp; omega) hs hl
theorem log_small {s : Int} (h : 0 ≤ s) (h2 : s ≤ 100000) : s.natAbs.log2 < 9000 := by
  have : s.natAbs < 2 ^ 9000 := by
    have : s.natAbs ≤ 100000 := by omega
    exact Nat.lt_of_le_of_lt this (by decide +kernel)
  by_cases h0 : s.natAbs = 0
  · rw [h0]; decide
  · exact (Nat.log2_lt h0).mpr this
theorem mixed_ex {c k : Int} {L : LH} (hk : 0 ≤ k) (hk2 : k ≤ 100000) : ∃ u : Int, 0 ≤ u ∧ u < 2147483579 ∧ F_l_mixed [.d (.int c), .d (.int k)] L = .ok (.d (.int u)) L := by
  have lg : ∀ i : Int, 0 ≤ i → i < 2 ^ 64 → i.natAbs.log2 < 64 := fun i h0 h1 => by
    have : i.natAbs < 2 ^ 64 := by omega
    by_cases z : i.natAbs = 0
    · rw [z]; decide
    · exact (Nat.log2_lt z).mpr this
  have a0 : 0 ≤ c % 2147483647 := Int.emod_nonneg _ (by omega)
  have a1 : c % 2147483647 < 2147483647 := Int.emod_lt_of_pos _ (by omega)
  have m1 : mulC (c % 2147483647) 48271 = true := by
    have := lg _ a0 (by omega)
    have h2 := lg 48271 (by omega) (by omega)
    exact decide_eq_true (by omega)
  have m2 : mulC k 69621 = true := by
    have := lg k hk (by omega)
    have h2 := lg 69621 (by omega) (by omega)
    exact decide_eq_true (by omega)
  generalize hn : (c % 2147483647 * 48271 + k * 69621 + 1048583) % 2147483629 = n
  have n0 : 0 ≤ n := by rw [← hn]; exact Int.emod_nonneg _ (by omega)
  have n1 : n < 2147483629 := by rw [← hn]; exact Int.emod_lt_of_pos _ (by omega)
  have m3 : mulC n n = true := by
    have := lg n n0 (by omega)
    exact decide_eq_true (by omega)
  generalize hn2 : (n * n) % 2147483587 = n2
  have p0 : 0 ≤ n2 := by rw [← hn2]; exact Int.emod_nonneg _ (by omega)
  have p1 : n2 < 2147483587 := by rw [← hn2]; exact Int.emod_lt_of_pos _ (by omega)
  have m4 : mulC n2 (n2 + 2) = true := by
    have := lg n2 p0 (by omega)
    have := lg (n2 + 2) (by omega) (by omega)
    exact decide_eq_true (by omega)
  refine ⟨(n2 * (n2 + 2)) % 2147483579, Int.emod_nonneg _ (by omega), Int.emod_lt_of_pos _ (by omega), ?_⟩
  simp [F_l_mixed, b_l_mixed, mkFn, modC, m1, m2, hn, m3, hn2, m4]
theorem log_pow {i : Int} {k : Nat} (h0 : 0 ≤ i) (h : i < 2 ^ k) (hk : 0 < k) : i.natAbs.log2 < k := by
  have : i.natAbs < 2 ^ k := by
    have : ((i.natAbs : Nat) : Int) < ((2 ^ k : Nat) : Int) := by rw [Int.natAbs_of_nonneg h0]; simpa using h
    exact_mod_cast this
  by_cases z : i.natAbs = 0
  · rw [z]; simpa using hk
  · exact (Nat.log2_lt z).mpr this
theorem pile_ex {ns : List Int} {k : Int} {L : LH} (hk : 0 ≤ k) (hk2 : k ≤ 10000) (hl : ns.length ≤ 63) : ∃ p : Int, F_l_pile [.scr ns, .d (.int k)] L = .ok (.lst [.d (.int p)]) L := by
  have cell : ∃ c : Int, (k < (ns.length : Int) → atI (ns.map fun i => Va.d (.int i)) k = some (.d (.int c))) ∧ (¬ k < (ns.length : Int) → c = 0) := by
    by_cases h : k < (ns.length : Int)
    · have hlt : k.toNat < ns.length := by omega
      refine ⟨ns[k.toNat], fun _ => ?_, fun z => absurd h z⟩
      simp [atI, ixN, hk, h, List.getElem?_eq_getElem hlt]
    · exact ⟨0, fun z => absurd z h, fun _ => rfl⟩
  obtain ⟨c, hc1, hc2⟩ := cell
  have loop := forL_inv (g := tN 4) (body := b_l_pile_1)
    (I := fun ws env M => M = L ∧ ∃ (f : Int) (j : Nat) (a : Option Va), env = [some (.scr ns), some (.d (.int k)), some (.d (.int c)), some (.d (.int f)), a] ∧ j + ws.length = 24 ∧ ws = (List.range' j ws.length).map (fun i => Va.d (.int (0 + (i : Nat)))) ∧ 0 ≤ f ∧ f < 2 ^ (31 * j))
    (rngV 0 24) [some (.scr ns), some (.d (.int k)), some (.d (.int c)), some (.d (.int 0)), none] L ⟨rfl, 0, 0, none, rfl, by simp [rngV], by simp [rngV, List.range_eq_range'], by omega, by simp⟩ ?_
  · obtain ⟨env', L', e1, rfl, f, j, a, rfl, h1, h2, h3, h4⟩ := loop
    by_cases hb : c < 10 ^ 18
    · refine ⟨f, ?_⟩
      have hb' : ¬ (1000000000000000000 ≤ c) := by omega
      by_cases h : k < (ns.length : Int)
      · simp [F_l_pile, b_l_pile, mkFnF, h, hc1 h, sFor, e1, powC, hb', sizeLine_eq, settleOb, mapO]
      · have := hc2 h
        subst this
        simp [F_l_pile, b_l_pile, mkFnF, h, sFor, e1, powC, sizeLine_eq, settleOb, mapO]
    · have hb' : 1000000000000000000 ≤ c := by omega
      have h : k < (ns.length : Int) := by
        by_cases h : k < (ns.length : Int)
        · exact h
        · have := hc2 h; omega
      have b1 : mulC (10 ^ 60) (10 ^ 60) = true := by decide +kernel
      have b2 : mulC (10 ^ 120) (10 ^ 60) = true := by decide +kernel
      have b3 : mulC (10 ^ 180) (10 ^ 60) = true := by decide +kernel
      simp only [Int.reducePow] at b1 b2 b3
      exact ⟨_, by simp [F_l_pile, b_l_pile, mkFnF, h, hc1 h, powC, hb', sizeLine_eq, settleOb, mapO, b1, b2, b3, modC]; rfl⟩
  · rintro w r env M ⟨rfl, f, j, a, rfl, h1, h2, h3, h4⟩
    simp only [List.length_cons] at h1 h2
    rw [List.range'_succ, List.map_cons, List.cons.injEq] at h2
    obtain ⟨rfl, h2⟩ := h2
    have hj : j < 24 := by omega
    obtain ⟨u, u0, u1, eu⟩ := mixed_ex (c := c) (k := 7 * k + 100 * (j : Int) + (j : Int) * (j : Int)) (L := M) (by
      have : (0 : Int) ≤ (j : Int) * j := Int.mul_nonneg (by omega) (by omega)
      omega) (by
      have : (j : Int) * j ≤ 24 * 24 := Int.mul_le_mul (by omega) (by omega) (by omega) (by omega)
      omega)
    have lg : ∀ i : Int, 0 ≤ i → i < 2 ^ 31 → i.natAbs.log2 < 31 := fun i h0 h1 => log_pow h0 h1 (by omega)
    have hp : (2 : Int) ^ (31 * j) ≤ 2 ^ 744 := by
      have : (2 : Nat) ^ (31 * j) ≤ 2 ^ 744 := Nat.pow_le_pow_right (by omega) (by omega)
      exact_mod_cast this
    have lf : f.natAbs.log2 < 744 := log_pow h3 (by omega) (by omega)
    have m1 : mulC f 2147483579 = true := by
      have := lg 2147483579 (by omega) (by omega)
      exact decide_eq_true (by omega)
    have m2 : mulC 7 k = true := by
      have := lg k (by omega) (by omega)
      have := lg 7 (by omega) (by omega)
      exact decide_eq_true (by omega)
    have m3 : mulC 100 (j : Int) = true := by
      have := lg j (by omega) (by omega)
      have := lg 100 (by omega) (by omega)
      exact decide_eq_true (by omega)
    have m4 : mulC (j : Int) (j : Int) = true := by
      have := lg j (by omega) (by omega)
      exact decide_eq_true (by omega)
    refine ⟨_, _, rfl, _, _, .inl ?_, rfl, f * 2147483579 + u, j + 1, some (.d (.int (0 + (j : Int)))), rfl, by omega, h2, ?_, ?_⟩
    · simp [b_l_pile_1, m1, m2, m3, m4, eu]
    · have : 0 ≤ f * 2147483579 := Int.mul_nonneg h3 (by omega)
      omega
    · have e : (2 : Int) ^ (31 * (j + 1)) = 2 ^ (31 * j) * 2147483648 := by
        rw [show 31 * (j + 1) = 31 * j + 31 by omega, Int.pow_add]; rfl
      rw [e]
      have : (f + 1) * 2147483579 ≤ 2 ^ (31 * j) * 2147483579 := Int.mul_le_mul_of_nonneg_right (by omega) (by omega)
      have h5 : (0 : Int) < 2 ^ (31 * j) := Int.pow_pos (by omega)
      omega
end L2.HW
namespace L2.HW
open PySem PySem.Spec PyProof.Rows
def Ok (d b : Nat) (x : PyData) : Prop := fine x = true ∧ x.depth ≤ d ∧ x.bulk ≤ b
theorem Ok.mono {d b d' b' : Nat} {x : PyData} (h : Ok d b x) (h1 : d ≤ d') (h2 : b ≤ b') : Ok d' b' x := ⟨h.1, by have := h.2.1; omega, by have := h.2.2; omega⟩
theorem Ok.tuple {d b : Nat} {xs : List PyData} (h : Ok d b (.tuple xs)) : ∀ x ∈ xs, fine x = true ∧ x.depth + 1 ≤ d := by
  intro x hx
  have h1 := h.1
  have h2 := h.2.1
  simp only [fine] at h1
  simp only [PyData.depth] at h2
  have h3 : PyData.depthAll xs ≤ d - 1 := by omega
  exact ⟨fineAll_iff.mp h1 x hx, by have := depthAll_le.mp h3 x hx; omega⟩
theorem cut_lo {α : Type} (xs : List α) (i : Int) (h0 : 0 ≤ i) (h1 : i ≤ xs.length) : cutA xs none (some i) = xs.take i.toNat := by
  have e : i = ((i.toNat : Nat) : Int) := by omega
  rw [e]
  unfold cutA
  rw [HT.sIx_none, HT.sIx_nat]
  simp
  omega
end L2.HW
namespace L2.HW
open PySem PySem.Spec PyProof.Rows
theorem seq_nx {f g : SFn} {env env1 : En} {L L1 : LH} {r : Out} (h : f env L = .nx env1 L1) (k : g env1 L1 = r) : sSeq f g env L = r := by
  simp only [u_sSeq, h]; exact k
theorem seq_rt {f g : SFn} {env : En} {L L1 : LH} {w : Va} (h : f env L = .rt w L1) : sSeq f g env L = .rt w L1 := by
  simp only [u_sSeq, h]
theorem for_nx {s : Srcf} {g : Va → En → LH → Res En} {body : SFn} {env env1 : En} {L L1 : LH} {ws : List Va} (hs : s env L = .ok (ws, none) L) (h : forL g body ws env L = .nx env1 L1) : sFor s g body env L = .nx env1 L1 := by
  simp only [sFor, hs, then_ok, lockL_none, h, openOut_nx, openL_none]
theorem fn_rt {np nl : Nat} {body : SFn} {ws : List Va} {L L' : LH} {x : PyData} (hl : ws.length = np) (h : body (ws.map some ++ List.replicate (nl - ws.length) none) L = .rt (.d x) L') (hk : outV L L' (some (.d x)) = .ok (.d x) L := by simp) : mkFn np nl body ws L = .ok (.d x) L := by
  unfold mkFn
  rw [if_pos hl, h]
  simpa using hk
theorem fn_out {np nl : Nat} {body : SFn} {ws : List Va} {L L' L2 : LH} {w u : Va} (hl : ws.length = np) (h : body (ws.map some ++ List.replicate (nl - ws.length) none) L = .rt w L') (hs : settle L' L.length 9 w = some u) (hk : outV L L' (some u) = .ok u L2) : mkFn np nl body ws L = .ok u L2 := by
  unfold mkFn
  rw [if_pos hl, h]
  simp only [hs, hk]
theorem forL_fold {α σ : Type} {g : Va → En → LH → Res En} {body : SFn} (enc : α → Va) (R : σ → En → LH → Prop) (step : σ → α → σ) : ∀ (xs : List α) (s : σ) (env : En) (L : LH), R s env L →
    (∀ s, ∀ x ∈ xs, ∀ env L, R s env L → ∃ env1 L1, g (enc x) env L = .ok env1 L1 ∧ ∃ env2 L2, (body env1 L1 = .nx env2 L2 ∨ body env1 L1 = .ct env2 L2) ∧ R (step s x) env2 L2) →
    ∃ env' L', forL g body (xs.map enc) env L = .nx env' L' ∧ R (xs.foldl step s) env' L'
  | [], s, env, L, h, _ => ⟨env, L, rfl, h⟩
  | x :: xs, s, env, L, h, k => by
    obtain ⟨env1, L1, e1, env2, L2, e2, h2⟩ := k s x List.mem_cons_self env L h
    obtain ⟨env', L', e3, h3⟩ := forL_fold enc R step xs (step s x) env2 L2 h2 fun s y hy => k s y (List.mem_cons_of_mem _ hy)
    refine ⟨env', L', ?_, h3⟩
    rw [List.map_cons]
    unfold forL
    rw [e1]
    rcases e2 with e2 | e2 <;> simp only [e2] <;> exact e3
theorem while_inv {t : En → LH → Res Bool} {body : SFn} {I : Nat → En → LH → Prop} {J : En → LH → Prop}
    (h : ∀ n env L, I n env L → (∃ L1, t env L = .ok false L1 ∧ J env L1) ∨ (∃ L1, t env L = .ok true L1 ∧ ∃ env2 L2, (body env L1 = .nx env2 L2 ∨ body env L1 = .ct env2 L2) ∧ ∃ m, m < n ∧ I m env2 L2)) {n : Nat} {env : En} {L : LH} (h0 : I n env L) :
    ∃ env' L', sWhile t body env L = .nx env' L' ∧ J env' L' := by
  have go : ∀ n env L, I n env L → ∃ k env' L', whileL t body k env L = .nx env' L' ∧ J env' L' := by
    intro n
    induction n using Nat.strongRecOn with
    | ind n ih =>
      intro env L hI
      rcases h n env L hI with ⟨L1, e1, j⟩ | ⟨L1, e1, env2, L2, e2, m, hm, i2⟩
      · exact ⟨1, env, L1, by simp [whileL, e1], j⟩
      · obtain ⟨k, env', L', e3, j⟩ := ih m hm env2 L2 i2
        refine ⟨k + 1, env', L', ?_, j⟩
        unfold whileL
        rw [e1]
        simp only [then_ok, if_pos]
        rcases e2 with e2 | e2 <;> simp only [e2] <;> exact e3
  obtain ⟨k, env', L', e, j⟩ := go n env L h0
  exact ⟨env', L', sWhile_eq e (by simp), j⟩
def insK {κ : Type} [DecidableEq κ] (ks : List κ) (k : κ) : List κ := if k ∈ ks then ks else ks ++ [k]
theorem mem_insK {κ : Type} [DecidableEq κ] {ks : List κ} {k x : κ} : x ∈ insK ks k ↔ x ∈ ks ∨ x = k := by
  unfold insK
  split
  · constructor
    · exact .inl
    · rintro (h | rfl)
      · exact h
      · assumption
  · simp
theorem nodup_insK {κ : Type} [DecidableEq κ] {ks : List κ} {k : κ} (h : ks.Nodup) : (insK ks k).Nodup := by
  unfold insK
  split
  · exact h
  · rw [List.nodup_append]
    exact ⟨h, by simp, fun x hx y hy => by have : y = k := by simpa using hy
                                           rw [this]; rintro rfl; contradiction⟩
theorem compL_ty {g : Va → En → LH → Res En} {t : En → LH → Res Bool} {f : EF} {env : En} {L : LH} {α : Type} (enc : α → Va) (p : α → Bool) (h : α → Va) : ∀ (xs : List α),
    (∀ x ∈ xs, ∃ env1, g (enc x) env L = .ok env1 L ∧ t env1 L = .ok (p x) L ∧ (p x = true → f env1 L = .ok (h x) L)) →
    compL g t f (xs.map enc) env L = .ok ((xs.filter p).map h) L
  | [], _ => rfl
  | x :: xs, k => by
    obtain ⟨env1, e1, e2, e3⟩ := k x List.mem_cons_self
    have ih := compL_ty (g := g) (t := t) (f := f) (env := env) (L := L) enc p h xs fun y hy => k y (List.mem_cons_of_mem _ hy)
    rw [List.map_cons]
    unfold compL
    rw [e1]
    simp only [e2]
    cases hp : p x with
    | true => simp [e3 hp, ih, hp]
    | false => simp [ih, hp]
theorem fComp_ty {s : Srcf} {g : Va → En → LH → Res En} {t : En → LH → Res Bool} {f : EF} {vs : List Nat} {env : En} {L : LH} {α : Type} (enc : α → Va) (p : α → Bool) (h : α → Va) (xs : List α)
    (hs : s env L = .ok (xs.map enc, none) L) (hz : xs.length ≤ sizeLine) (k : ∀ x ∈ xs, ∃ env1, g (enc x) (wipeE env vs) L = .ok env1 L ∧ t env1 L = .ok (p x) L ∧ (p x = true → f env1 L = .ok (h x) L)) :
    fComp s g t f vs env L = .ok (.lst ((xs.filter p).map h)) L := by
  unfold fComp
  rw [hs]
  simp only [Res.bind_ok, List.length_map, if_pos hz, lockL_none]
  rw [compL_ty enc p h xs k]
  simp
theorem fComp_tym {s : Srcf} {g : Va → En → LH → Res En} {f : EF} {vs : List Nat} {env : En} {L : LH} {α : Type} (enc : α → Va) (h : α → Va) (xs : List α)
    (hs : s env L = .ok (xs.map enc, none) L) (hz : xs.length ≤ sizeLine) (k : ∀ x ∈ xs, ∃ env1, g (enc x) (wipeE env vs) L = .ok env1 L ∧ f env1 L = .ok (h x) L) :
    fComp s g tTrue f vs env L = .ok (.lst (xs.map h)) L := by
  have := fComp_ty (s := s) (g := g) (t := tTrue) (f := f) (vs := vs) (env := env) (L := L) enc (fun _ => true) h xs hs hz fun x hx => by
    obtain ⟨e, h1, h2⟩ := k x hx
    exact ⟨e, h1, rfl, fun _ => h2⟩
  rwa [List.filter_eq_self.mpr (fun _ _ => rfl)] at this
theorem srcR1_int {fs : En → LH → Res (List Va)} {i : Int} {env : En} {L L1 : LH} (h : fs env L = .ok [.d (.int i)] L1) (rg : -4611686018427387904 ≤ i ∧ i < 4611686018427387904) : srcR1 fs env L = .ok (rngV 0 i.toNat, none) L1 := by
  simp [h, rg]
theorem srcR1_nat {fs : En → LH → Res (List Va)} {n : Nat} {env : En} {L L1 : LH} (h : fs env L = .ok [.d (.int (n : Int))] L1) (hn : n ≤ sizeLine + 1) : srcR1 fs env L = .ok (rngV 0 n, none) L1 := by
  have hs : sizeLine = 16777216 := sizeLine_eq
  have := srcR1_int h ⟨by omega, by omega⟩
  rwa [Int.toNat_natCast] at this
end L2.HW
namespace L2.HW
open PySem PySem.Spec PyProof.Rows
@[simp] theorem at_0 {α : Type} (a : α) (l : List α) : atI (a :: l) 0 = some a := by simp [atI, ixN]
@[simp] theorem at_1 {α : Type} (a b : α) (l : List α) : atI (a :: b :: l) 1 = some b := by
  have : (1 : Int) < l.length + 1 + 1 := by omega
  simp [atI, ixN, this]
@[simp] theorem at_2 {α : Type} (a b c : α) (l : List α) : atI (a :: b :: c :: l) 2 = some c := by
  have : (2 : Int) < l.length + 1 + 1 + 1 := by omega
  simp [atI, ixN, this]
@[simp] theorem at_3 {α : Type} (a b c d : α) (l : List α) : atI (a :: b :: c :: d :: l) 3 = some d := by
  have : (3 : Int) < l.length + 1 + 1 + 1 + 1 := by omega
  simp [atI, ixN, this]
structure Rd where
  u : Int
  v : Int
  l : Int
  w : Int
deriving DecidableEq, Repr
def Rd.d (r : Rd) : PyData := .tuple [.int r.u, .int r.v, .int r.l, .int r.w]
structure Wb where
  m : Int
  b : Int
  e : Int
  rs : List Rd
deriving DecidableEq, Repr
def Wb.d (W : Wb) : PyData := .tuple [.int W.m, .int W.b, .int W.e, .tuple (W.rs.map Rd.d)]
structure Rd.Good (m e : Int) (r : Rd) : Prop where
  u0 : 0 ≤ r.u
  u1 : r.u < m
  ue : r.u ≠ e
  v0 : 0 ≤ r.v
  v1 : r.v < m
  uv : r.u ≠ r.v
  l1 : 1 ≤ r.l
  w1 : 1 ≤ r.w
structure Wb.Good (W : Wb) : Prop where
  m2 : 2 ≤ W.m
  mM : W.m ≤ 1000
  b0 : 0 ≤ W.b
  b1 : W.b < W.m
  e0 : 0 ≤ W.e
  e1 : W.e < W.m
  be : W.b ≠ W.e
  rs : ∀ r ∈ W.rs, Rd.Good W.m W.e r
  len : W.rs.length ≤ 10000
theorem look_map {γ δ : Type} (h : γ → δ) (k : Int) : ∀ s : List (Int × γ), alook (s.map fun p => (p.1, h p.2)) k = (alook s k).map h
  | [] => rfl
  | (a, x) :: s => by
    rw [List.map_cons, look_cons, look_cons, look_map h k s]
    by_cases e : a = k <;> simp [e]
theorem aput_map {γ δ : Type} (h : γ → δ) (k : Int) (v : γ) (s : List (Int × γ)) : aput (s.map fun p => (p.1, h p.2)) k (h v) = (aput s k v).map fun p => (p.1, h p.2) := by
  unfold aput tIx.aput
  have e : (s.map fun p => (p.1, h p.2)).any (fun kv => decide (kv.1 = k)) = s.any (fun kv => decide (kv.1 = k)) := by
    rw [List.any_map]; rfl
  rw [e]
  split
  · rw [List.map_map, List.map_map]
    refine List.map_congr_left fun p _ => ?_
    simp only [Function.comp]
    split <;> rfl
  · rw [List.map_append]; rfl
theorem keys_aput {γ : Type} (s : List (Int × γ)) (k : Int) (v : γ) : (aput s k v).map (·.1) = insK (s.map (·.1)) k := by
  unfold aput tIx.aput insK
  by_cases h : s.any (fun kv => decide (kv.1 = k)) = true
  · rw [if_pos h, if_pos (by
      obtain ⟨x, hx, hk⟩ := List.any_eq_true.mp h
      exact List.mem_map.mpr ⟨x, hx, of_decide_eq_true hk⟩), List.map_map]
    refine List.map_congr_left fun p _ => ?_
    simp only [Function.comp]
    split <;> rfl
  · rw [if_neg h, if_neg (by
      intro hm
      obtain ⟨x, hx, hk⟩ := List.mem_map.mp hm
      exact h (List.any_eq_true.mpr ⟨x, hx, decide_eq_true hk⟩)), List.map_append]
    rfl
def PlKeys {γ : Type} (m : Int) (s : List (Int × γ)) : Prop := (s.map (·.1)).Nodup ∧ ∀ k ∈ s.map (·.1), 0 ≤ k ∧ k < m
theorem PlKeys.put {γ : Type} {m : Int} {s : List (Int × γ)} (h : PlKeys m s) {k : Int} (h0 : 0 ≤ k) (h1 : k < m) (v : γ) : PlKeys m (aput s k v) := by
  unfold PlKeys
  rw [keys_aput]
  refine ⟨nodup_insK h.1, fun x hx => ?_⟩
  rcases mem_insK.mp hx with hx | rfl
  · exact h.2 x hx
  · exact ⟨h0, h1⟩
theorem PlKeys.few {γ : Type} {m : Int} {s : List (Int × γ)} (h : PlKeys m s) (hm : m ≤ 1000) : s.length < sizeLine := by
  have := nodup_few (m := m.toNat) h.1 (fun x hx => by have := h.2 x hx; omega)
  rw [List.length_map] at this
  rw [sizeLine_eq]
  omega
def toB : BF Int (Rd × Nat) := ⟨fun a => a.1.v, fun a => a.1.u, fun x a => x + a.1.l, fun x y => decide (x ≤ y)⟩
theorem toB_ok : toB.Ok := ⟨fun x => by simp [toB], fun h k => by simp [toB] at *; omega, fun x y => by simp [toB]; omega, fun a h => by simp [toB] at *; omega⟩
def open1 (fr : List Int) (a : Rd × Nat) : Bool := decide (0 < fr.getD a.2 0)
def openA (W : Wb) (fr : List Int) : List (Rd × Nat) := W.rs.zipIdx.filter (open1 fr)
def lenTo (W : Wb) (fr : List Int) : List (Int × Int) := toB.run (openA W fr) W.m.toNat [(W.e, 0)]
def encE (p : Rd × Nat) : Va := .d (.tuple [.int p.2, p.1.d])
theorem enum_rds (rs : List Rd) : enumV 0 ((rs.map Rd.d).map Va.d) = rs.zipIdx.map encE := by
  unfold enumV
  rw [List.map_map, List.zipIdx_map, List.map_map]
  refine List.map_congr_left fun p _ => ?_
  simp [encE, mkTup, datas, Prod.map]
abbrev dInt (s : List (Int × Int)) : List (Int × Va) := s.map fun p => (p.1, Va.d (.int p.2))
theorem look_dInt (s : List (Int × Int)) (k : Int) : alook (dInt s) k = (alook s k).map fun x => Va.d (.int x) := look_map (fun x => Va.d (.int x)) k s
theorem aput_dInt (s : List (Int × Int)) (k v : Int) : aput (dInt s) k (Va.d (.int v)) = dInt (aput s k v) := aput_map (fun x => Va.d (.int x)) _ _ _
theorem mem_zip {α : Type} {rs : List α} {p : α × Nat} (h : p ∈ rs.zipIdx) : rs[p.2]? = some p.1 := by
  obtain ⟨a, i⟩ := p
  exact List.mem_zipIdx_iff_getElem?.mp h
theorem frs_at {fr : List Int} {i : Nat} (h : i < fr.length) : atI (fr.map fun x => Va.d (.int x)) (i : Int) = some (Va.d (.int (fr.getD i 0))) := by
  simp [atI, ixN, h, List.getD_eq_getElem?_getD, List.getElem?_eq_getElem h]
def frO (fr : List Int) : Ob := .lst (fr.map fun x => Va.d (.int x))
theorem rel1_run {W : Wb} (g : W.Good) {fr : List Int} {L : LH} {n : Nat} (hn : L[n]? = some (some (frO fr))) (hl : fr.length = W.rs.length) {s : List (Int × Int)} (hs : PlKeys W.m s) {p : Rd × Nat} (hp : p ∈ W.rs.zipIdx) {t : Option Va} :
    b_lengths_to_1 [some (.d W.d), some (.loc n), some (.loc L.length), t, some (.d (.int p.2)), some (.d (.int p.1.u)), some (.d (.int p.1.v)), some (.d (.int p.1.l)), some (.d (.int p.1.w))] (L ++ [some (.di (dInt s))]) =
      .nx [some (.d W.d), some (.loc n), some (.loc L.length), t, some (.d (.int p.2)), some (.d (.int p.1.u)), some (.d (.int p.1.v)), some (.d (.int p.1.l)), some (.d (.int p.1.w))] (L ++ [some (.di (dInt (if open1 fr p then toB.rel s p else s)))]) := by
  have hlt : n < L.length := (List.getElem?_eq_some_iff.mp hn).1
  have hi := mem_zip hp
  have hil : p.2 < fr.length := by rw [hl]; exact (List.getElem?_eq_some_iff.mp hi).1
  have hn2 : (L ++ [some (Ob.di (dInt s))])[n]? = some (some (frO fr)) := by rw [List.getElem?_append_left hlt]; exact hn
  have hb : (L ++ [some (Ob.di (dInt s))])[L.length]? = some (some (.di (dInt s))) := by simp
  have ha := frs_at hil
  obtain ⟨q, hq⟩ : ∃ q, q = fr.getD p.2 0 := ⟨_, rfl⟩
  rw [← hq] at ha
  have gr := g.rs p.1 (List.mem_of_getElem? hi)
  have few := hs.few g.mM
  have hlen : (dInt s).length < sizeLine := by rw [List.length_map]; exact few
  have d1 : Va.dget (L ++ [some (Ob.di (dInt s))]) (.loc n) (.d (.int p.2)) = none := by simp only [Va.dget, hn2, frO]
  have d2 : Va.seq (L ++ [some (Ob.di (dInt s))]) (.loc n) = some (fr.map fun x => Va.d (.int x)) := by simp only [Va.seq, hn2, frO]
  have d3 : ∀ k : Int, Va.dget (L ++ [some (Ob.di (dInt s))]) (.loc L.length) (.d (.int k)) = some ((alook s k).map fun x => Va.d (.int x)) := by
    intro k
    simp only [Va.dget, hb, look_dInt]
  by_cases hf : 0 < q
  · have ho : open1 fr p = true := decide_eq_true (by rw [← hq]; exact hf)
    rw [if_pos ho]
    cases hv : alook s p.1.v with
    | none =>
      have : toB.rel s p = s := by simp [BF.rel, toB, hv]
      simp [b_lengths_to_1, d1, d2, d3, ha, hf, hv, opGt, this]
    | some x =>
      cases hu : alook s p.1.u with
      | none =>
        have : toB.rel s p = aput s p.1.u (x + p.1.l) := by simp [BF.rel, toB, hv, hu]
        simp [b_lengths_to_1, d1, d2, d3, ha, hf, hv, hu, opGt, this, hb, few, aput_dInt]
      | some y =>
        by_cases hy : y ≤ x + p.1.l
        · have : toB.rel s p = s := by simp [BF.rel, toB, hv, hu, hy]
          have hy2 : ¬ x + p.1.l < y := by omega
          simp [b_lengths_to_1, d1, d2, d3, ha, hf, hv, hu, opGt, this, hy2]
        · have : toB.rel s p = aput s p.1.u (x + p.1.l) := by simp [BF.rel, toB, hv, hu, hy]
          have hy2 : x + p.1.l < y := by omega
          simp [b_lengths_to_1, d1, d2, d3, ha, hf, hv, hu, opGt, this, hb, few, hy2, aput_dInt]
  · have ho : ¬ open1 fr p = true := fun z => hf (by rw [hq]; exact of_decide_eq_true z)
    rw [if_neg ho]
    simp [b_lengths_to_1, d1, d2, ha, hf, opGt]
theorem toB_hd {W : Wb} (g : W.Good) {p : Rd × Nat} (hp : p ∈ W.rs.zipIdx) : Rd.Good W.m W.e p.1 := g.rs p.1 (List.mem_of_getElem? (mem_zip hp))
theorem rel_keys {W : Wb} (g : W.Good) {s : List (Int × Int)} (hs : PlKeys W.m s) {p : Rd × Nat} (hp : p ∈ W.rs.zipIdx) : PlKeys W.m (toB.rel s p) := by
  have gr := toB_hd g hp
  unfold BF.rel
  split
  · exact hs
  · split
    · exact hs.put gr.u0 gr.u1 _
    · split
      · exact hs
      · exact hs.put gr.u0 gr.u1 _
def LT (W : Wb) (n : Nat) (L : LH) (s : List (Int × Int)) (env : En) (M : LH) : Prop := PlKeys W.m s ∧ ∃ t a b c d e, env = [some (.d W.d), some (.loc n), some (.loc L.length), t, a, b, c, d, e] ∧ M = L ++ [some (.di (dInt s))]
theorem fold_const {σ α : Type} (f : σ → σ) : ∀ (xs : List α) (s : σ), xs.foldl (fun s _ => f s) s = Nat.repeat f xs.length s
  | [], s => rfl
  | x :: xs, s => by
    rw [List.foldl_cons, fold_const f xs]
    have : ∀ (n : Nat) (s : σ), Nat.repeat f n (f s) = Nat.repeat f (n + 1) s := by
      intro n
      induction n with
      | zero => intro s; rfl
      | succ n ih => intro s; show f (Nat.repeat f n (f s)) = _; rw [ih]; rfl
    exact this _ _
theorem run_repeat {γ Arc : Type} (B : BF γ Arc) (A : List Arc) : ∀ (n : Nat) (ks : List (Int × γ)), Nat.repeat (B.round A) n ks = B.run A n ks := by
  have sh : ∀ (n : Nat) (s : List (Int × γ)), Nat.repeat (B.round A) n (B.round A s) = Nat.repeat (B.round A) (n + 1) s := by
    intro n
    induction n with
    | zero => intro s; rfl
    | succ n ih => intro s; show B.round A (Nat.repeat (B.round A) n (B.round A s)) = _; rw [ih]; rfl
  intro n
  induction n with
  | zero => intro ks; rfl
  | succ n ih => intro ks; rw [← sh, ih]; rfl
theorem mapO_eq {α β γ : Type} {f : α → Option β} (enc : γ → α) (h : γ → β) : ∀ (l : List γ), (∀ x ∈ l, f (enc x) = some (h x)) → mapO f (l.map enc) = some (l.map h)
  | [], _ => rfl
  | x :: l, k => by
    rw [List.map_cons]
    unfold mapO
    rw [k x List.mem_cons_self, mapO_eq enc h l fun y hy => k y (List.mem_cons_of_mem _ hy)]
    rfl
theorem lengths_run {W : Wb} (g : W.Good) {fr : List Int} {L : LH} {n : Nat} (hn : L[n]? = some (some (frO fr))) (hl : fr.length = W.rs.length) :
    F_lengths_to [.d W.d, .loc n] L = .ok (.dct ((lenTo W fr).map fun p => (p.1, .int p.2))) L := by
  have inner : ∀ (s : List (Int × Int)) (env : En) (M : LH), LT W n L s env M → ∃ env2 M2, b_lengths_to_2 env M = .nx env2 M2 ∧ LT W n L (toB.round (openA W fr) s) env2 M2 := by
    rintro s env M ⟨hs, t, a, b, c, d, e, rfl, rfl⟩
    obtain ⟨env', L', e1, hR⟩ := forL_fold (g := tTupT 2 (tgCons (tN 4) (tgCons (tTupT 4 (tgCons (tN 5) (tgCons (tN 6) (tgCons (tN 7) (tgCons (tN 8) tgNil))))) tgNil))) (body := b_lengths_to_1) encE (LT W n L) (fun s p => if open1 fr p then toB.rel s p else s) W.rs.zipIdx s [some (.d W.d), some (.loc n), some (.loc L.length), t, a, b, c, d, e] (L ++ [some (.di (dInt s))]) ⟨hs, t, a, b, c, d, e, rfl, rfl⟩ (by
      rintro s p hp env M ⟨hs, t, a, b, c, d, e, rfl, rfl⟩
      refine ⟨[some (.d W.d), some (.loc n), some (.loc L.length), t, some (.d (.int p.2)), some (.d (.int p.1.u)), some (.d (.int p.1.v)), some (.d (.int p.1.l)), some (.d (.int p.1.w))], _, by simp [encE, Rd.d], _, _, .inl (rel1_run g hn hl hs hp), ?_, _, _, _, _, _, _, rfl, rfl⟩
      split
      · exact rel_keys g hs hp
      · exact hs)
    refine ⟨env', L', for_nx (ws := W.rs.zipIdx.map encE) ?_ e1, ?_⟩
    · rw [← enum_rds]; simp [Wb.d, srcOf]
    · rw [← List.foldl_filter] at hR
      exact hR
  have h0 : PlKeys W.m [(W.e, (0 : Int))] := ⟨by simp, by simp [g.e0, g.e1]⟩
  obtain ⟨env', L', e1, hk, t, a, b, c, d, e, rfl, rfl⟩ := forL_fold (g := tN 3) (body := b_lengths_to_2) (fun i : Nat => Va.d (.int (0 + (i : Nat)))) (LT W n L) (fun s _ => toB.round (openA W fr) s) (List.range W.m.toNat) [(W.e, 0)] [some (.d W.d), some (.loc n), some (.loc L.length), none, none, none, none, none, none] (L ++ [some (.di (dInt [(W.e, 0)]))]) ⟨h0, _, _, _, _, _, _, rfl, rfl⟩ (by
    rintro s i hi env M ⟨hs, t, a, b, c, d, e, rfl, rfl⟩
    obtain ⟨env2, M2, h1, h2⟩ := inner s [some (.d W.d), some (.loc n), some (.loc L.length), some (Va.d (.int (0 + (i : Nat)))), a, b, c, d, e] _ ⟨hs, _, _, _, _, _, _, rfl, rfl⟩
    exact ⟨_, _, rfl, env2, M2, .inl h1, h2⟩)
  rw [fold_const, run_repeat, List.length_range] at e1
  have hm := g.m2
  have hM := g.mM
  refine fn_out rfl ?_ (w := .loc L.length) (L' := L ++ [some (.di (dInt (lenTo W fr)))]) ?_ (outV_app _ _ _)
  · refine seq_nx (env1 := [some (.d W.d), some (.loc n), some (.loc L.length), none, none, none, none, none, none]) (L1 := L ++ [some (.di (dInt [(W.e, 0)]))]) (by simp [Wb.d, dsp, mergeA, aput, tIx.aput]) ?_
    refine seq_nx (for_nx (ws := rngV 0 W.m.toNat) ?_ e1) ?_
    · have := rng_ok (c := W.m) (by omega) (by omega)
      simp [Wb.d, this]
    · simp [lenTo]
  · rw [settle_loc, if_neg (by omega)]
    simp only [List.getElem?_concat_length, settleO]
    rw [mapO_eq (fun p : Int × Int => (p.1, Va.d (.int p.2))) (fun p => (p.1, PyData.int p.2)) _ (fun p _ => by simp)]
end L2.HW
namespace L2.HW
open PySem PySem.Spec PyProof.Rows
def isWay (W : Wb) (fr : List Int) : Int → List Nat → Prop
  | x, [] => x = W.e
  | x, i :: p => ∃ r, W.rs[i]? = some r ∧ 0 < fr.getD i 0 ∧ r.u = x ∧ isWay W fr r.v p
def wlen (W : Wb) (p : List Nat) : Int := (p.map fun i => (W.rs[i]?.map Rd.l).getD 0).sum
theorem wlen_cons {W : Wb} {i : Nat} {r : Rd} (h : W.rs[i]? = some r) (p : List Nat) : wlen W (i :: p) = r.l + wlen W p := by
  simp [wlen, h]
theorem mem_open {W : Wb} {fr : List Int} {a : Rd × Nat} : a ∈ openA W fr ↔ W.rs[a.2]? = some a.1 ∧ 0 < fr.getD a.2 0 := by
  unfold openA open1
  rw [List.mem_filter, decide_eq_true_eq]
  obtain ⟨r, i⟩ := a
  rw [List.mem_zipIdx_iff_getElem?]
theorem pth_of {W : Wb} {fr : List Int} : ∀ {p : List Nat} {x : Int}, isWay W fr x p → ∃ q, toB.pth (openA W fr) W.e q x ∧ toB.ev 0 q = wlen W p
  | [], x, h => ⟨[], h.symm, rfl⟩
  | i :: p, x, ⟨r, h1, h2, h3, h4⟩ => by
    obtain ⟨q, k1, k2⟩ := pth_of h4
    refine ⟨q ++ [(r, i)], BF.pth_app k1 ⟨mem_open.mpr ⟨h1, h2⟩, rfl, h3⟩, ?_⟩
    rw [BF.ev_app, k2, wlen_cons h1]
    simp [BF.ev, toB]
    omega
theorem way_of {W : Wb} {fr : List Int} {x : Int} : ∀ {q : List (Rd × Nat)} {y : Int} {p0 : List Nat}, toB.pth (openA W fr) y q x → isWay W fr y p0 → ∃ p, isWay W fr x p ∧ wlen W p = toB.ev (wlen W p0) q
  | [], y, p0, h, k => by cases h; exact ⟨p0, k, rfl⟩
  | c :: q, y, p0, ⟨h1, h2, h3⟩, k => by
    obtain ⟨k1, k2⟩ := mem_open.mp h1
    have h2' : c.1.v = y := h2
    obtain ⟨p, e1, e2⟩ := way_of h3 (p0 := c.2 :: p0) ⟨c.1, k1, k2, rfl, by rw [h2']; exact k⟩
    refine ⟨p, e1, ?_⟩
    rw [e2, wlen_cons k1, Int.add_comm]
    rfl
theorem open_good {W : Wb} (g : W.Good) {fr : List Int} {a : Rd × Nat} (h : a ∈ openA W fr) : Rd.Good W.m W.e a.1 := g.rs a.1 (List.mem_of_getElem? (mem_open.mp h).1)
theorem ev_le {W : Wb} (g : W.Good) {fr : List Int} : ∀ (p : List (Rd × Nat)) (z : Int), (∀ c ∈ p, c ∈ openA W fr) → z ≤ toB.ev z p
  | [], z, _ => Int.le_refl _
  | c :: p, z, h => by
    have h1 := (open_good g (h c List.mem_cons_self)).l1
    have h2 := ev_le g p (z + c.1.l) fun d hd => h d (List.mem_cons_of_mem _ hd)
    have : toB.ev z (c :: p) = toB.ev (z + c.1.l) p := rfl
    omega
theorem toB_cyc {W : Wb} (g : W.Good) (fr : List Int) : toB.Cyc (openA W fr) := fun q p z h => decide_eq_true (ev_le g p z (BF.pth_mem h))
theorem look_one (e k : Int) (y : Int) : alook [(e, (0 : Int))] k = some y ↔ k = e ∧ y = 0 := by
  rw [look_cons]
  by_cases h : e = k
  · subst h; simp; exact ⟨fun h => h.symm, fun h => h.symm⟩
  · have : ¬ k = e := fun z => h z.symm
    simp [h, this, alook]
section
variable {W : Wb} (g : W.Good) {fr : List Int}
include g
theorem dist_le {x : Int} {p : List Nat} (h : isWay W fr x p) : ∃ d, alook (lenTo W fr) x = some d ∧ d ≤ wlen W p := by
  obtain ⟨q, h1, h2⟩ := pth_of h
  have := g.m2
  obtain ⟨y, e, l⟩ := BF.run_all (m := W.m.toNat) (n := W.m.toNat) toB_ok (toB_cyc g fr) (fun c hc => by have := open_good g hc; exact ⟨this.u0, by have := this.u1; show c.1.u < _; omega⟩)
    (ks := [(W.e, (0 : Int))]) (fun k y h => by obtain ⟨rfl, _⟩ := (look_one _ _ _).mp h; have := g.e0; have := g.e1; omega) (Nat.le_refl _) ((look_one _ _ _).mpr ⟨rfl, rfl⟩) h1
  exact ⟨y, e, by rw [← h2]; exact of_decide_eq_true l⟩
omit g in
theorem dist_way {x d : Int} (h : alook (lenTo W fr) x = some d) : ∃ p, isWay W fr x p ∧ wlen W p = d := by
  obtain ⟨a, z, q, h1, h2, rfl⟩ := BF.run_sound h
  obtain ⟨rfl, rfl⟩ := (look_one _ _ _).mp h1
  exact way_of h2 (p0 := []) rfl
theorem dist_e : alook (lenTo W fr) W.e = some 0 := by
  obtain ⟨d, h1, h2⟩ := dist_le g (fr := fr) (x := W.e) (p := []) rfl
  obtain ⟨p, h3, h4⟩ := dist_way h1
  cases p with
  | nil => rw [h1, ← h4]; rfl
  | cons i p =>
    obtain ⟨r, k1, k2, k3, k4⟩ := h3
    exact absurd k3 (g.rs r (List.mem_of_getElem? k1)).ue
theorem isWay_pos : ∀ {p : List Nat} {x : Int}, isWay W fr x p → 0 ≤ wlen W p
  | [], x, _ => by simp [wlen]
  | i :: p, x, ⟨r, h1, h2, h3, h4⟩ => by
    rw [wlen_cons h1]
    have := isWay_pos h4
    have := (g.rs r (List.mem_of_getElem? h1)).l1
    omega
theorem dist_step {i : Nat} {r : Rd} {d' : Int} (h1 : W.rs[i]? = some r) (h2 : 0 < fr.getD i 0) (h : alook (lenTo W fr) r.v = some d') : ∃ d, alook (lenTo W fr) r.u = some d ∧ d ≤ d' + r.l := by
  obtain ⟨p, k1, k2⟩ := dist_way h
  obtain ⟨d, e1, e2⟩ := dist_le g (x := r.u) (p := i :: p) ⟨r, h1, h2, rfl, k1⟩
  rw [wlen_cons h1] at e2
  exact ⟨d, e1, by omega⟩
theorem way_tight {x d : Int} {i : Nat} {r : Rd} {p : List Nat} (hd : alook (lenTo W fr) x = some d) (h1 : W.rs[i]? = some r) (h2 : 0 < fr.getD i 0) (h3 : r.u = x) (h4 : isWay W fr r.v p) (hl : wlen W (i :: p) = d) : alook (lenTo W fr) r.v = some (d - r.l) ∧ wlen W p = d - r.l := by
  rw [wlen_cons h1] at hl
  obtain ⟨d', e1, e2⟩ := dist_le g h4
  obtain ⟨d2, e3, e4⟩ := dist_step g h1 h2 e1
  rw [h3, hd] at e3
  cases e3
  refine ⟨?_, by omega⟩
  rw [e1, show d' = d - r.l from by omega]
end
def tightP (fr : List Int) (D : List (Int × Int)) (x : Int) (a : Rd × Nat) : Bool := open1 fr a && (decide (a.1.u = x) && match alook D a.1.v with
  | some d' => decide (alook D x = some (d' + a.1.l))
  | none => false)
theorem tightP_iff {fr : List Int} {D : List (Int × Int)} {x : Int} {a : Rd × Nat} : tightP fr D x a = true ↔ 0 < fr.getD a.2 0 ∧ a.1.u = x ∧ ∃ d', alook D a.1.v = some d' ∧ alook D x = some (d' + a.1.l) := by
  unfold tightP open1
  cases h : alook D a.1.v with
  | none => simp
  | some d' => simp
def pick (W : Wb) (fr : List Int) (x : Int) : Option (Rd × Nat) := W.rs.zipIdx.find? (tightP fr (lenTo W fr) x)
inductive GW (W : Wb) (fr : List Int) : Int → List Nat → Prop
  | nil : GW W fr W.e []
  | cons {x : Int} {a : Rd × Nat} {p : List Nat} : x ≠ W.e → pick W fr x = some a → GW W fr a.1.v p → GW W fr x (a.2 :: p)
theorem pick_some {W : Wb} {fr : List Int} {x : Int} {a : Rd × Nat} (h : pick W fr x = some a) : W.rs[a.2]? = some a.1 ∧ 0 < fr.getD a.2 0 ∧ a.1.u = x ∧ ∃ d', alook (lenTo W fr) a.1.v = some d' ∧ alook (lenTo W fr) x = some (d' + a.1.l) := by
  have h1 := tightP_iff.mp (List.find?_some h)
  have h2 := List.mem_of_find?_eq_some h
  exact ⟨mem_zip h2, h1⟩
section
variable {W : Wb} (g : W.Good) {fr : List Int}
include g
theorem gw_ex : ∀ (n : Nat) {x d : Int}, d.toNat ≤ n → alook (lenTo W fr) x = some d → ∃ p, GW W fr x p := by
  intro n
  induction n with
  | zero =>
    intro x d hn hd
    by_cases hx : x = W.e
    · subst hx; exact ⟨[], .nil⟩
    · obtain ⟨p, k1, k2⟩ := dist_way hd
      cases p with
      | nil => exact absurd k1 hx
      | cons i p =>
        obtain ⟨r, h1, h2, h3, h4⟩ := k1
        rw [wlen_cons h1] at k2
        have := isWay_pos g h4
        have := (g.rs r (List.mem_of_getElem? h1)).l1
        omega
  | succ n ih =>
    intro x d hn hd
    by_cases hx : x = W.e
    · subst hx; exact ⟨[], .nil⟩
    · obtain ⟨p, k1, k2⟩ := dist_way hd
      cases p with
      | nil => exact absurd k1 hx
      | cons i p =>
        obtain ⟨r, h1, h2, h3, h4⟩ := k1
        obtain ⟨t1, t2⟩ := way_tight g hd h1 h2 h3 h4 k2
        have ht : tightP fr (lenTo W fr) x (r, i) = true := tightP_iff.mpr ⟨h2, h3, _, t1, by rw [hd]; congr 1; show d = d - r.l + r.l; omega⟩
        cases e : pick W fr x with
        | none =>
          have := List.find?_eq_none.mp e (r, i) (List.mem_zipIdx_iff_getElem?.mpr h1)
          exact absurd ht this
        | some a =>
          obtain ⟨e1, e2, e3, d', e4, e5⟩ := pick_some e
          rw [hd] at e5
          cases e5
          have l1 := (g.rs a.1 (List.mem_of_getElem? e1)).l1
          have d0 : 0 ≤ d' := by
            obtain ⟨q, q1, q2⟩ := dist_way e4
            have := isWay_pos g q1
            omega
          obtain ⟨q, hq⟩ := ih (x := a.1.v) (d := d') (by omega) e4
          exact ⟨_, .cons hx e hq⟩
theorem gw_way {x : Int} {p : List Nat} (h : GW W fr x p) : isWay W fr x p ∧ alook (lenTo W fr) x = some (wlen W p) := by
  induction h with
  | nil => exact ⟨rfl, dist_e g⟩
  | cons hx e _ ih =>
    obtain ⟨e1, e2, e3, d', e4, e5⟩ := pick_some e
    rw [ih.2] at e4
    cases e4
    exact ⟨⟨_, e1, e2, e3, ih.1⟩, by rw [e5, wlen_cons e1, Int.add_comm]⟩

theorem gw_le {x : Int} {p : List Nat} (h : GW W fr x p) : ∀ i ∈ p, ∃ r d, W.rs[i]? = some r ∧ 0 < fr.getD i 0 ∧ alook (lenTo W fr) r.u = some d ∧ d ≤ wlen W p := by
  induction h with
  | nil => intro i hi; cases hi
  | @cons x a p hx e hp ih =>
    intro i hi
    have hd := (gw_way g (GW.cons hx e hp)).2
    obtain ⟨e1, e2, e3, d', e4, e5⟩ := pick_some e
    have l1 := (g.rs a.1 (List.mem_of_getElem? e1)).l1
    rcases List.mem_cons.mp hi with rfl | hi
    · exact ⟨a.1, _, e1, e2, by rw [e3]; exact hd, Int.le_refl _⟩
    · obtain ⟨r, d, h1, h2, h3, h4⟩ := ih i hi
      refine ⟨r, d, h1, h2, h3, ?_⟩
      rw [wlen_cons e1]
      omega
theorem gw_nodup {x : Int} {p : List Nat} (h : GW W fr x p) : p.Nodup := by
  induction h with
  | nil => exact .nil
  | @cons x a p hx e hp ih =>
    refine List.nodup_cons.mpr ⟨fun hi => ?_, ih⟩
    have hd := (gw_way g (GW.cons hx e hp)).2
    obtain ⟨e1, e2, e3, d', e4, e5⟩ := pick_some e
    have l1 := (g.rs a.1 (List.mem_of_getElem? e1)).l1
    obtain ⟨r, d, h1, h2, h3, h4⟩ := gw_le g hp a.2 hi
    rw [h1] at e1
    cases e1
    rw [e3, hd] at h3
    cases h3
    rw [wlen_cons h1] at h4
    omega
end
theorem nodup_fewN {n : Nat} {p : List Nat} (h : p.Nodup) (hp : ∀ i ∈ p, i < n) : p.length ≤ n := by
  have := nodup_few (m := n) (l := p.map fun i : Nat => (i : Int)) (by
    rw [List.nodup_iff_pairwise_ne, List.pairwise_map]
    exact List.Pairwise.imp (fun h z => h (by omega)) (List.nodup_iff_pairwise_ne.mp h)) (by
    intro x hx
    obtain ⟨i, hi, rfl⟩ := List.mem_map.mp hx
    have := hp i hi
    omega)
  rwa [List.length_map] at this
end L2.HW
namespace L2.HW
open PySem PySem.Spec PyProof.Rows
theorem forL_find {α : Type} {g : Va → En → LH → Res En} {body : SFn} (enc : α → Va) (R : En → LH → Prop) (S : α → En → LH → Prop) (p : α → Bool) : ∀ (xs : List α) (env : En) (L : LH) {a : α}, R env L → xs.find? p = some a →
    (∀ x ∈ xs, ∀ env L, R env L → ∃ env1 L1, g (enc x) env L = .ok env1 L1 ∧ (p x = true → ∃ env2 L2, body env1 L1 = .bk env2 L2 ∧ S x env2 L2) ∧ (p x = false → ∃ env2 L2, body env1 L1 = .nx env2 L2 ∧ R env2 L2)) →
    ∃ env' L', forL g body (xs.map enc) env L = .nx env' L' ∧ S a env' L'
  | [], _, _, _, _, h, _ => by cases h
  | x :: xs, env, L, a, hR, h, k => by
    obtain ⟨env1, L1, e1, h1, h2⟩ := k x List.mem_cons_self env L hR
    rw [List.find?_cons] at h
    cases hp : p x with
    | true =>
      rw [hp] at h
      cases h
      obtain ⟨env2, L2, e2, s⟩ := h1 hp
      refine ⟨env2, L2, ?_, s⟩
      rw [List.map_cons]
      unfold forL
      rw [e1]
      simp only [e2]
    | false =>
      rw [hp] at h
      obtain ⟨env2, L2, e2, r⟩ := h2 hp
      obtain ⟨env', L', e3, s⟩ := forL_find enc R S p xs env2 L2 r h fun y hy => k y (List.mem_cons_of_mem _ hy)
      refine ⟨env', L', ?_, s⟩
      rw [List.map_cons]
      unfold forL
      rw [e1]
      simp only [e2]
      exact e3
abbrev dD (s : List (Int × Int)) : List (Int × PyData) := s.map fun p => (p.1, PyData.int p.2)
theorem look_dD (s : List (Int × Int)) (k : Int) : alook (dD s) k = (alook s k).map PyData.int := look_map PyData.int k s
theorem dget_dD (s : List (Int × Int)) (k : Int) (L : LH) : Va.dget L (.dct (dD s)) (.d (.int k)) = some ((alook s k).map fun x => Va.d (.int x)) := by
  simp only [Va.dget, look_dD, Option.map_map]
  rfl
abbrev nI (p : List Nat) : List PyData := p.map fun i : Nat => .int (i : Int)
theorem body_fw {W : Wb} {fr : List Int} {L : LH} {n : Nat} (hn : L[n]? = some (some (frO fr))) (hl : fr.length = W.rs.length) {x d : Int} (hd : alook (lenTo W fr) x = some d) {pre : List Nat} (hp : pre.length < sizeLine) {a : Rd × Nat} (ha : a ∈ W.rs.zipIdx) :
    b_first_way_1 [some (.d W.d), some (.loc n), some (.dct (dD (lenTo W fr))), some (.d (.int x)), some (.loc L.length), some (.d (.int a.2)), some (.d (.int a.1.u)), some (.d (.int a.1.v)), some (.d (.int a.1.l)), some (.d (.int a.1.w))] (L ++ [some (.lst ((nI pre).map Va.d))]) =
      if tightP fr (lenTo W fr) x a then .bk [some (.d W.d), some (.loc n), some (.dct (dD (lenTo W fr))), some (.d (.int a.1.v)), some (.loc L.length), some (.d (.int a.2)), some (.d (.int a.1.u)), some (.d (.int a.1.v)), some (.d (.int a.1.l)), some (.d (.int a.1.w))] (L ++ [some (.lst ((nI (pre ++ [a.2])).map Va.d))])
      else .nx [some (.d W.d), some (.loc n), some (.dct (dD (lenTo W fr))), some (.d (.int x)), some (.loc L.length), some (.d (.int a.2)), some (.d (.int a.1.u)), some (.d (.int a.1.v)), some (.d (.int a.1.l)), some (.d (.int a.1.w))] (L ++ [some (.lst ((nI pre).map Va.d))]) := by
  have hlt : n < L.length := (List.getElem?_eq_some_iff.mp hn).1
  have hi := mem_zip ha
  have hil : a.2 < fr.length := by rw [hl]; exact (List.getElem?_eq_some_iff.mp hi).1
  have hat := frs_at hil
  obtain ⟨q, hq⟩ : ∃ q, q = fr.getD a.2 0 := ⟨_, rfl⟩
  rw [← hq] at hat
  obtain ⟨M, hM⟩ : ∃ M, M = L ++ [some (Ob.lst ((nI pre).map Va.d))] := ⟨_, rfl⟩
  have hb : M[L.length]? = some (some (Ob.lst ((nI pre).map Va.d))) := by rw [hM]; simp
  have hn2 : M[n]? = some (some (frO fr)) := by rw [hM, List.getElem?_append_left hlt]; exact hn
  have d1 : Va.dget M (.loc n) (.d (.int a.2)) = none := by simp only [Va.dget, hn2, frO]
  have d2 : Va.seq M (.loc n) = some (fr.map fun x => Va.d (.int x)) := by simp only [Va.seq, hn2, frO]
  have d3 := dget_dD (lenTo W fr)
  have hset : M.set L.length (some (.lst ((nI pre).map Va.d ++ [.d (.int a.2)]))) = L ++ [some (.lst ((nI (pre ++ [a.2])).map Va.d))] := by rw [hM]; simp
  have hpl : ((nI pre).map Va.d).length < sizeLine := by rw [List.length_map, List.length_map]; exact hp
  rw [← hM]
  have fin : (tAndF (tVal (eOp opGt (eOp opIx (eVar 1) (eVar 5)) (eC (.int 0)))) (tAndF (tVal (eOp opEq (eVar 6) (eVar 3))) (tAndF (tVal (eOp (opIn false) (eVar 7) (eVar 2))) (tVal (eOp opEq (eOp opIx (eVar 2) (eVar 6)) (eOp opAdd (eOp opIx (eVar 2) (eVar 7)) (eVar 8))))))) [some (.d W.d), some (.loc n), some (.dct (dD (lenTo W fr))), some (.d (.int x)), some (.loc L.length), some (.d (.int a.2)), some (.d (.int a.1.u)), some (.d (.int a.1.v)), some (.d (.int a.1.l)), some (.d (.int a.1.w))] M = .ok (tightP fr (lenTo W fr) x a) M := by
    unfold tightP open1
    rw [← hq]
    by_cases h1 : 0 < q
    · by_cases h2 : a.1.u = x
      · cases hv : alook (lenTo W fr) a.1.v with
        | none => simp [d1, d2, d3, hat, h1, opGt, h2, eqv_int, hv]
        | some d' => simp [d1, d2, d3, hat, h1, opGt, h2, eqv_int, hv, hd]
      · simp [d1, d2, hat, h1, opGt, h2, eqv_int]
    · simp [d1, d2, hat, h1, opGt]
  unfold b_first_way_1
  simp only [u_sIf, fin, then_ok]
  cases tightP fr (lenTo W fr) x a with
  | false => simp
  | true => simp [hb, hp, hM]
theorem first_way_none {W : Wb} (g : W.Good) {fr : List Int} {L : LH} {n : Nat} (hn : L[n]? = some (some (frO fr))) (hl : fr.length = W.rs.length) (h : alook (lenTo W fr) W.b = none) : F_first_way [.d W.d, .loc n] L = .ok (.d .none) L := by
  refine fn_out rfl ?_ (w := .d .none) (L' := L) (settle_d _ _ _ _) (by simp)
  refine seq_nx (env1 := [some (.d W.d), some (.loc n), some (.dct (dD (lenTo W fr))), none, none, none, none, none, none, none]) (L1 := L) (by simp [lengths_run g hn hl]) ?_
  refine seq_nx (env1 := [some (.d W.d), some (.loc n), some (.dct (dD (lenTo W fr))), some (.d (.int W.b)), none, none, none, none, none, none]) (L1 := L) (by simp [Wb.d]) ?_
  refine seq_rt ?_
  have := dget_dD (lenTo W fr) W.b L
  simp [this, h]
def FWI (W : Wb) (fr : List Int) (n : Nat) (L : LH) (full : List Nat) (k : Nat) (env : En) (M : LH) : Prop := ∃ x pre rest a b c d e, GW W fr x rest ∧ k = rest.length ∧ pre ++ rest = full ∧ env = [some (.d W.d), some (.loc n), some (.dct (dD (lenTo W fr))), some (.d (.int x)), some (.loc L.length), a, b, c, d, e] ∧ M = L ++ [some (.lst ((nI pre).map Va.d))]
theorem gw_len {W : Wb} (g : W.Good) {fr : List Int} {x : Int} {p : List Nat} (h : GW W fr x p) : p.length ≤ 10000 := by
  have := nodup_fewN (gw_nodup g h) (n := W.rs.length) (fun i hi => by
    obtain ⟨r, d, h1, _⟩ := gw_le g h i hi
    exact (List.getElem?_eq_some_iff.mp h1).1)
  have := g.len
  omega
theorem first_way_some {W : Wb} (g : W.Good) {fr : List Int} {L : LH} {n : Nat} (hn : L[n]? = some (some (frO fr))) (hl : fr.length = W.rs.length) {p : List Nat} (hp : GW W fr W.b p) : F_first_way [.d W.d, .loc n] L = .ok (.d (.tuple (nI p))) L := by
  have hdb := (gw_way g hp).2
  have hpl := gw_len g hp
  have W1 := while_inv (t := tVal (eOp opNe (eVar 3) (eOp opIx (eVar 0) (eC (.int 2))))) (body := b_first_way_2) (I := FWI W fr n L p) (J := fun env M => ∃ x a b c d e, env = [some (.d W.d), some (.loc n), some (.dct (dD (lenTo W fr))), x, some (.loc L.length), a, b, c, d, e] ∧ M = L ++ [some (.lst ((nI p).map Va.d))]) (n := p.length) (env := [some (.d W.d), some (.loc n), some (.dct (dD (lenTo W fr))), some (.d (.int W.b)), some (.loc L.length), none, none, none, none, none]) (L := L ++ [some (.lst [])]) ?_ ⟨W.b, [], p, _, _, _, _, _, hp, rfl, rfl, rfl, rfl⟩
  · obtain ⟨env', L', e1, x, a, b, c, d, e, rfl, rfl⟩ := W1
    refine fn_out rfl ?_ (w := .d (.tuple (nI p))) (L' := L ++ [some (.lst ((nI p).map Va.d))]) (settle_d _ _ _ _) (outV_app _ _ _)
    refine seq_nx (env1 := [some (.d W.d), some (.loc n), some (.dct (dD (lenTo W fr))), none, none, none, none, none, none, none]) (L1 := L) (by simp [lengths_run g hn hl]) ?_
    refine seq_nx (env1 := [some (.d W.d), some (.loc n), some (.dct (dD (lenTo W fr))), some (.d (.int W.b)), none, none, none, none, none, none]) (L1 := L) (by simp [Wb.d]) ?_
    refine seq_nx (env1 := [some (.d W.d), some (.loc n), some (.dct (dD (lenTo W fr))), some (.d (.int W.b)), none, none, none, none, none, none]) (L1 := L) (by
      have := dget_dD (lenTo W fr) W.b L
      simp [this, hdb]) ?_
    refine seq_nx (env1 := [some (.d W.d), some (.loc n), some (.dct (dD (lenTo W fr))), some (.d (.int W.b)), some (.loc L.length), none, none, none, none, none]) (L1 := L ++ [some (.lst [])]) (by simp) ?_
    refine seq_nx e1 ?_
    simp [Va.items, cTuple]
  · rintro k env M ⟨x, pre, rest, a, b, c, d, e, hg, rfl, hf, rfl, rfl⟩
    cases hg with
    | nil =>
      have : pre = p := by simpa using hf
      subst this
      refine .inl ⟨L ++ [some (.lst ((nI pre).map Va.d))], by simp [Wb.d, eqv_int], _, _, _, _, _, _, rfl, rfl⟩
    | @cons x y q hx hpk hq =>
      have hd := (gw_way g (GW.cons hx hpk hq)).2
      have hpre : pre.length < sizeLine := by
        have : pre.length ≤ p.length := by rw [← hf]; simp
        rw [sizeLine_eq]
        omega
      refine .inr ⟨L ++ [some (.lst ((nI pre).map Va.d))], by simp [Wb.d, eqv_int, hx], ?_⟩
      obtain ⟨env', L', e1, hS⟩ := forL_find (g := tTupT 2 (tgCons (tN 5) (tgCons (tTupT 4 (tgCons (tN 6) (tgCons (tN 7) (tgCons (tN 8) (tgCons (tN 9) tgNil))))) tgNil))) (body := b_first_way_1) encE
        (fun env M => ∃ a b c d e, env = [some (.d W.d), some (.loc n), some (.dct (dD (lenTo W fr))), some (.d (.int x)), some (.loc L.length), a, b, c, d, e] ∧ M = L ++ [some (.lst ((nI pre).map Va.d))])
        (fun y env M => ∃ a b c d e, env = [some (.d W.d), some (.loc n), some (.dct (dD (lenTo W fr))), some (.d (.int y.1.v)), some (.loc L.length), a, b, c, d, e] ∧ M = L ++ [some (.lst ((nI (pre ++ [y.2])).map Va.d))])
        (tightP fr (lenTo W fr) x) W.rs.zipIdx [some (.d W.d), some (.loc n), some (.dct (dD (lenTo W fr))), some (.d (.int x)), some (.loc L.length), a, b, c, d, e] (L ++ [some (.lst ((nI pre).map Va.d))]) ⟨a, b, c, d, e, rfl, rfl⟩ hpk (by
          rintro z hz env M ⟨a, b, c, d, e, rfl, rfl⟩
          refine ⟨[some (.d W.d), some (.loc n), some (.dct (dD (lenTo W fr))), some (.d (.int x)), some (.loc L.length), some (.d (.int z.2)), some (.d (.int z.1.u)), some (.d (.int z.1.v)), some (.d (.int z.1.l)), some (.d (.int z.1.w))], L ++ [some (.lst ((nI pre).map Va.d))], by simp [encE, Rd.d], fun hz2 => ?_, fun hz2 => ?_⟩
          · exact ⟨_, _, by rw [body_fw hn hl hd hpre hz, if_pos hz2], _, _, _, _, _, rfl, rfl⟩
          · exact ⟨_, _, by rw [body_fw hn hl hd hpre hz, if_neg (by rw [hz2]; simp)], _, _, _, _, _, rfl, rfl⟩)
      obtain ⟨a', b', c', d', e', rfl, rfl⟩ := hS
      refine ⟨_, _, .inl (for_nx (ws := W.rs.zipIdx.map encE) ?_ e1), q.length, by simp, _, pre ++ [y.2], q, _, _, _, _, _, hq, rfl, by simpa using hf, rfl, rfl⟩
      rw [← enum_rds]
      simp [Wb.d, srcOf]
end L2.HW
namespace L2.HW
open PySem PySem.Spec PyProof.Rows
def getF (fr : List Int) (p : List Nat) : List Int := p.map fun i => fr.getD i 0
def subW (n : Int) (fr : List Int) (p : List Nat) : List Int := p.foldl (fun f i => f.set i (f.getD i 0 - n)) fr
abbrev Hw := Int × Int × List Nat
def Hw.d (h : Hw) : PyData := .tuple [.int h.1, .int h.2.1, .tuple (nI h.2.2)]
inductive Hur (W : Wb) : List Int → List Hw → Prop
  | nil {fr : List Int} : alook (lenTo W fr) W.b = none → Hur W fr []
  | cons {fr : List Int} {p : List Nat} {n : Int} {rest : List Hw} : GW W fr W.b p → minI (getF fr p) = some n → Hur W (subW n fr p) rest → Hur W fr ((wlen W p, n, p) :: rest)
theorem sub_len (n : Int) : ∀ (p : List Nat) (fr : List Int), (subW n fr p).length = fr.length
  | [], fr => rfl
  | i :: p, fr => by
    show (subW n (fr.set i (fr.getD i 0 - n)) p).length = _
    rw [sub_len n p, List.length_set]
theorem getD_set (f : List Int) (i j : Nat) (x : Int) (h : i < f.length) : (f.set i x).getD j 0 = if j = i then x else f.getD j 0 := by
  rw [List.getD_eq_getElem?_getD, List.getElem?_set]
  by_cases e : i = j
  · subst e; simp [h]
  · have : ¬ j = i := fun z => e z.symm
    simp [e, this]
theorem sub_getD (n : Int) : ∀ (p : List Nat) (fr : List Int) (j : Nat), p.Nodup → (∀ i ∈ p, i < fr.length) → (subW n fr p).getD j 0 = if j ∈ p then fr.getD j 0 - n else fr.getD j 0
  | [], fr, j, _, _ => by simp [subW]
  | i :: p, fr, j, hn, hl => by
    obtain ⟨h1, h2⟩ := List.nodup_cons.mp hn
    have hi := hl i List.mem_cons_self
    show (subW n (fr.set i (fr.getD i 0 - n)) p).getD j 0 = _
    rw [sub_getD n p _ j h2 (fun k hk => by rw [List.length_set]; exact hl k (List.mem_cons_of_mem _ hk)), getD_set _ _ _ _ hi]
    by_cases e : j = i
    · subst e
      rw [if_neg h1, if_pos rfl, if_pos List.mem_cons_self]
    · rw [if_neg e]
      by_cases hj : j ∈ p
      · rw [if_pos hj, if_pos (List.mem_cons_of_mem _ hj)]
      · rw [if_neg hj, if_neg (fun z => by rcases List.mem_cons.mp z with z | z; exact e z; exact hj z)]
theorem minI_mem {l : List Int} {n : Int} (h : minI l = some n) : n ∈ l ∧ ∀ x ∈ l, n ≤ x := by
  have := minI_spec h
  exact ⟨this.1, this.2⟩
theorem minI_ex {l : List Int} (h : l ≠ []) : ∃ n, minI l = some n := by
  cases l with
  | nil => exact absurd rfl h
  | cons a r => exact ⟨_, rfl⟩
theorem filter_lt {α : Type} {p q : α → Bool} : ∀ {l : List α}, (∀ x ∈ l, q x = true → p x = true) → (∃ x ∈ l, p x = true ∧ q x = false) → (l.filter q).length < (l.filter p).length
  | [], _, ⟨_, h, _⟩ => by cases h
  | a :: l, h, ⟨x, hx, h1, h2⟩ => by
    have le : ∀ {l : List α}, (∀ x ∈ l, q x = true → p x = true) → (l.filter q).length ≤ (l.filter p).length := by
      intro l
      induction l with
      | nil => intro _; simp
      | cons a l ih =>
        intro h
        have := ih fun x hx => h x (List.mem_cons_of_mem _ hx)
        rw [List.filter_cons, List.filter_cons]
        cases hq : q a with
        | true => simp [h a List.mem_cons_self hq]; exact this
        | false =>
          cases hp : p a with
          | true => simp; omega
          | false => simpa using this
    rw [List.filter_cons, List.filter_cons]
    rcases List.mem_cons.mp hx with rfl | hx
    · rw [h1, h2]
      have := le fun y hy => h y (List.mem_cons_of_mem _ hy)
      simp
      omega
    · have := filter_lt (fun y hy => h y (List.mem_cons_of_mem _ hy)) ⟨x, hx, h1, h2⟩
      cases hq : q a with
      | true => simp [h a List.mem_cons_self hq]; exact this
      | false =>
        cases hp : p a with
        | true => simp; omega
        | false => simpa using this
def posN (fr : List Int) : Nat := ((List.range fr.length).filter fun i => decide (0 < fr.getD i 0)).length
theorem posN_le (fr : List Int) : posN fr ≤ fr.length := by
  have := List.length_filter_le (fun i => decide (0 < fr.getD i 0)) (List.range fr.length)
  rw [List.length_range] at this
  exact this
section
variable {W : Wb} (g : W.Good)
include g
theorem gw_lt {fr : List Int} (hl : fr.length = W.rs.length) {x : Int} {p : List Nat} (h : GW W fr x p) : ∀ i ∈ p, i < fr.length ∧ 0 < fr.getD i 0 := fun i hi => by
  obtain ⟨r, d, h1, h2, _⟩ := gw_le g h i hi
  exact ⟨by rw [hl]; exact (List.getElem?_eq_some_iff.mp h1).1, h2⟩
theorem gw_ne {fr : List Int} {p : List Nat} (h : GW W fr W.b p) : p ≠ [] := by
  rintro rfl
  have := (gw_way g h).1
  exact g.be this
theorem sub_ok {fr : List Int} (hl : fr.length = W.rs.length) (h0 : ∀ i, 0 ≤ fr.getD i 0) {p : List Nat} (h : GW W fr W.b p) {n : Int} (hn : minI (getF fr p) = some n) : 0 < n ∧ (∀ i, 0 ≤ (subW n fr p).getD i 0) ∧ posN (subW n fr p) < posN fr := by
  obtain ⟨m1, m2⟩ := minI_mem hn
  have nd := gw_nodup g h
  have lt := gw_lt g hl h
  obtain ⟨i0, hi0, e0⟩ := List.mem_map.mp m1
  have gd := fun j => sub_getD n p fr j nd fun i hi => (lt i hi).1
  refine ⟨by rw [← e0]; exact (lt i0 hi0).2, fun i => ?_, ?_⟩
  · rw [gd]
    split
    · rename_i hi
      have := m2 _ (List.mem_map.mpr ⟨i, hi, rfl⟩)
      omega
    · exact h0 i
  · unfold posN
    rw [sub_len]
    refine filter_lt (fun i _ hq => ?_) ⟨i0, List.mem_range.mpr (lt i0 hi0).1, decide_eq_true (lt i0 hi0).2, ?_⟩
    · have hq := of_decide_eq_true hq
      rw [gd] at hq
      split at hq
      · rename_i hi
        exact decide_eq_true (lt i hi).2
      · exact decide_eq_true hq
    · rw [gd, if_pos hi0, ← e0]
      simp
theorem hur_ex : ∀ (k : Nat) {fr : List Int}, posN fr ≤ k → fr.length = W.rs.length → (∀ i, 0 ≤ fr.getD i 0) → ∃ l, Hur W fr l := by
  intro k
  induction k with
  | zero =>
    intro fr hk hl h0
    cases e : alook (lenTo W fr) W.b with
    | none => exact ⟨[], .nil e⟩
    | some d =>
      obtain ⟨p, hp⟩ := gw_ex g _ (Nat.le_refl _) e
      obtain ⟨n, hn⟩ := minI_ex (l := getF fr p) (by intro z; exact gw_ne g hp (List.map_eq_nil_iff.mp z))
      have := (sub_ok g hl h0 hp hn).2.2
      omega
  | succ k ih =>
    intro fr hk hl h0
    cases e : alook (lenTo W fr) W.b with
    | none => exact ⟨[], .nil e⟩
    | some d =>
      obtain ⟨p, hp⟩ := gw_ex g _ (Nat.le_refl _) e
      obtain ⟨n, hn⟩ := minI_ex (l := getF fr p) (by intro z; exact gw_ne g hp (List.map_eq_nil_iff.mp z))
      obtain ⟨h1, h2, h3⟩ := sub_ok g hl h0 hp hn
      obtain ⟨l, hL⟩ := ih (fr := subW n fr p) (by omega) (by rw [sub_len, hl]) h2
      exact ⟨_, .cons hp hn hL⟩
theorem hur_len {fr : List Int} {l : List Hw} (h : Hur W fr l) : fr.length = W.rs.length → (∀ i, 0 ≤ fr.getD i 0) → l.length ≤ posN fr := by
  induction h with
  | nil => intro _ _; simp
  | cons hp hn _ ih =>
    intro hl h0
    obtain ⟨h1, h2, h3⟩ := sub_ok g hl h0 hp hn
    have := ih (by rw [sub_len, hl]) h2
    simp
    omega
end
end L2.HW
namespace L2.HW
open PySem PySem.Spec PyProof.Rows
theorem cMin1_ints {l : List Int} {n : Int} (h : minI l = some n) (L : LH) : cMin1X [.d (.list (l.map PyData.int))] L = .ok (.d (.int n)) L := by
  have : vaInts (l.map (Va.d ∘ PyData.int)) = some l := vaInts_map l
  simp [cMin1X, one, this, h]
theorem cSum_ints (l : List Int) (L : LH) : cSum [.d (.list (l.map PyData.int))] L = .ok (.d (.int l.sum)) L := by
  have : vaInts (l.map (Va.d ∘ PyData.int)) = some l := vaInts_map l
  simp [cSum, one, this]
theorem augIx_run {op : Int → Int → Int} {fo fi fe : EF} {env : En} {M : LH} {n i : Nat} {fr : List Int} {b : Int} (h1 : fo env M = .ok (.loc n) M) (h2 : fi env M = .ok (.d (.int (i : Int))) M) (h3 : M[n]? = some (some (frO fr))) (h4 : i < fr.length) (h5 : fe env M = .ok (.d (.int b)) M) :
    sAugIx op fo fi fe env M = .nx env (M.set n (some (frO (fr.set i (op (fr.getD i 0) b))))) := by
  have hg : (fr.map fun x => Va.d (.int x))[i]? = some (Va.d (.int (fr.getD i 0))) := by
    rw [List.getElem?_map, List.getElem?_eq_getElem h4, List.getD_eq_getElem?_getD, List.getElem?_eq_getElem h4]; rfl
  unfold frO at h3 ⊢
  rw [List.map_set]
  unfold sAugIx
  rw [h1]
  simp only [then_ok]
  rw [h2]
  simp only [then_ok, h3]
  rw [if_pos (Int.natCast_nonneg i), Int.toNat_natCast, hg]
  simp only
  rw [h5]
  simp only [then_ok, h3]
  rw [if_pos (by rw [List.length_map]; exact h4)]
theorem callB_dat {α : Type} {c : List Va → LH → Res Va} {F : En → LH → Res Ob} {env : En} {L : LH} {xs : List α} {h : α → PyData} {w : Va} (h1 : F env L = .ok (.lst (xs.map fun i => Va.d (h i))) L) (h2 : c [.d (.list (xs.map h))] L = .ok w L) : eCallB c (aCons (eDat F) aNil) env L = .ok w L := by
  simp only [u_eCallB, u_aCons, u_eDat, u_aNil, h1, Res.bind_ok, u_va, datas_comp', Option.map_some, h2]
def HM (L : LH) (fr : List Int) (pre : List Hw) : LH := L ++ [some (frO fr), some (.lst ((pre.map Hw.d).map Va.d))]
theorem hm_fr (L : LH) (fr : List Int) (pre : List Hw) : (HM L fr pre)[L.length]? = some (some (frO fr)) := by simp [HM]
theorem hm_fd (L : LH) (fr : List Int) (pre : List Hw) : (HM L fr pre)[L.length + 1]? = some (some (.lst ((pre.map Hw.d).map Va.d))) := by simp [HM]
theorem hm_set_fr (L : LH) (fr fr' : List Int) (pre : List Hw) : (HM L fr pre).set L.length (some (frO fr')) = HM L fr' pre := by simp [HM]
theorem hm_set_fd (L : LH) (fr : List Int) (pre : List Hw) (o : Ob) : (HM L fr pre).set (L.length + 1) (some o) = L ++ [some (frO fr), some o] := by simp [HM]
def wayV : List Hw → Va
  | [] => .d .none
  | h :: _ => .d (.tuple (nI h.2.2))
theorem way_next {W : Wb} (g : W.Good) {fr : List Int} {L : LH} {n : Nat} (hn : L[n]? = some (some (frO fr))) (hl : fr.length = W.rs.length) {rest : List Hw} (h : Hur W fr rest) : F_first_way [.d W.d, .loc n] L = .ok (wayV rest) L := by
  cases h with
  | nil e => exact first_way_none g hn hl e
  | cons hp _ _ => exact first_way_some g hn hl hp
theorem sub_loop {W : Wb} {fr : List Int} {L : LH} {pre : List Hw} {p : List Nat} {n : Int} (hp : ∀ i ∈ p, i < fr.length) {a b c d e : Option Va} {wv : Va} :
    ∃ x, forL (tN 5) b_found_hurried_1 ((nI p).map Va.d) [some (.d W.d), some (.loc L.length), some (.loc (L.length + 1)), some wv, some (.d (.int n)), a, b, c, d, e] (HM L fr pre) = .nx [some (.d W.d), some (.loc L.length), some (.loc (L.length + 1)), some wv, some (.d (.int n)), x, b, c, d, e] (HM L (subW n fr p) pre) := by
  induction p generalizing fr a with
  | nil => exact ⟨a, rfl⟩
  | cons i p ih =>
    have hi := hp i List.mem_cons_self
    obtain ⟨x, hx⟩ := ih (fr := fr.set i (fr.getD i 0 - n)) (a := some (.d (.int i))) fun j hj => by rw [List.length_set]; exact hp j (List.mem_cons_of_mem _ hj)
    refine ⟨x, ?_⟩
    have hf := hm_fr L fr pre
    have step : b_found_hurried_1 [some (.d W.d), some (.loc L.length), some (.loc (L.length + 1)), some wv, some (.d (.int n)), some (.d (.int i)), b, c, d, e] (HM L fr pre) = .nx [some (.d W.d), some (.loc L.length), some (.loc (L.length + 1)), some wv, some (.d (.int n)), some (.d (.int i)), b, c, d, e] (HM L (fr.set i (fr.getD i 0 - n)) pre) := by
      have := augIx_run (op := (· - ·)) (fo := eVar 1) (fi := eVar 5) (fe := eVar 4) (env := [some (.d W.d), some (.loc L.length), some (.loc (L.length + 1)), some wv, some (.d (.int n)), some (.d (.int i)), b, c, d, e]) (i := i) (b := n) (by simp) (by simp) hf hi (by simp)
      rw [hm_set_fr] at this
      exact this
    rw [nI, List.map_cons, List.map_cons]
    unfold forL
    simp only [show tN 5 (Va.d (.int (i : Int))) [some (.d W.d), some (.loc L.length), some (.loc (L.length + 1)), some wv, some (.d (.int n)), a, b, c, d, e] (HM L fr pre) = .ok [some (.d W.d), some (.loc L.length), some (.loc (L.length + 1)), some wv, some (.d (.int n)), some (.d (.int i)), b, c, d, e] (HM L fr pre) from by simp, step]
    exact hx
theorem rs_at {W : Wb} {i : Nat} {r : Rd} (h : W.rs[i]? = some r) : atI (List.map Va.d (W.rs.map Rd.d)) (i : Int) = some (.d r.d) := by
  have hi := (List.getElem?_eq_some_iff.mp h).1
  simp [atI, ixN, hi]
  exact (List.getElem?_eq_some_iff.mp h).2 ▸ rfl
def FHI (W : Wb) (L : LH) (full : List Hw) (k : Nat) (env : En) (M : LH) : Prop := ∃ fr pre rest a b c d e f, Hur W fr rest ∧ fr.length = W.rs.length ∧ (∀ i, 0 ≤ fr.getD i 0) ∧ k = rest.length ∧ pre ++ rest = full ∧ env = [some (.d W.d), some (.loc L.length), some (.loc (L.length + 1)), some (wayV rest), a, b, c, d, e, f] ∧ M = HM L fr pre
def frW (W : Wb) : List Int := W.rs.map Rd.w
theorem frW_ok {W : Wb} (g : W.Good) : (frW W).length = W.rs.length ∧ ∀ i, 0 ≤ (frW W).getD i 0 := by
  refine ⟨by simp [frW], fun i => ?_⟩
  unfold frW
  rw [List.getD_eq_getElem?_getD, List.getElem?_map]
  cases h : W.rs[i]? with
  | none => simp
  | some r =>
    have := (g.rs r (List.mem_of_getElem? h)).w1
    simp
    omega
theorem fnF_loc {np nl : Nat} {body : SFn} {ws : List Va} {L g : LH} {n : Nat} {xs : List PyData} (hl : ws.length = np) (h : body (ws.map some ++ List.replicate (nl - ws.length) none) L = .rt (.loc n) (L ++ g)) (hn : L.length ≤ n) (ho : (L ++ g)[n]? = some (some (.lst (xs.map Va.d)))) : mkFnF np nl body ws L = .ok (.lst (xs.map Va.d)) L := by
  unfold mkFnF
  rw [if_pos hl, h]
  simp only [if_pos hn, ho, settleOb_d]
  rw [if_pos (kept_app L g)]
  simp
theorem fnF_rf {np nl : Nat} {body : SFn} {ws : List Va} {L g : LH} {xs : List PyData} (hl : ws.length = np) (h : body (ws.map some ++ List.replicate (nl - ws.length) none) L = .rf (.lst (xs.map Va.d)) (L ++ g)) : mkFnF np nl body ws L = .ok (.lst (xs.map Va.d)) L := by
  unfold mkFnF
  rw [if_pos hl, h]
  simp only [settleOb_d]
  rw [if_pos (kept_app L g)]
  simp
theorem found_hurried_run {W : Wb} (g : W.Good) {l : List Hw} (hl : Hur W (frW W) l) (L : LH) : F_found_hurried [.d W.d] L = .ok (.lst ((l.map Hw.d).map Va.d)) L := by
  obtain ⟨f1, f2⟩ := frW_ok g
  have hlen := hur_len g hl f1 f2
  have hp1 := posN_le (frW W)
  have glen := g.len
  have hz := sizeLine_eq
  have W1 := while_inv (t := tVal (eOp opNotN (eVar 3) (eC .none))) (body := b_found_hurried_2) (I := FHI W L l) (J := fun env M => ∃ x a b c d e f fr, env = [some (.d W.d), some (.loc L.length), some (.loc (L.length + 1)), x, a, b, c, d, e, f] ∧ M = HM L fr l) (n := l.length) (env := [some (.d W.d), some (.loc L.length), some (.loc (L.length + 1)), some (wayV l), none, none, none, none, none, none]) (L := HM L (frW W) []) ?_ ⟨frW W, [], l, _, _, _, _, _, _, hl, f1, f2, rfl, rfl, rfl, rfl⟩
  · obtain ⟨env', L', e1, x, a, b, c, d, e, f, fr, rfl, rfl⟩ := W1
    refine fnF_loc (n := L.length + 1) (g := [some (frO fr), some (.lst ((l.map Hw.d).map Va.d))]) rfl ?_ (by omega) (hm_fd L fr l)
    · show b_found_hurried _ L = .rt (.loc (L.length + 1)) (HM L fr l)
      refine seq_nx (env1 := [some (.d W.d), some (.loc L.length), none, none, none, none, none, none, none, none]) (L1 := L ++ [some (frO (frW W))]) ?_ ?_
      · have c1 := fComp_tym (s := srcV (eOp opIx (eVar 0) (eC (.int 3)))) (g := tTupT 4 (tgCons (tN 6) (tgCons (tN 7) (tgCons (tN 8) (tgCons (tN 9) tgNil))))) (f := eVar 9) (vs := [6, 7, 8, 9]) (env := [some (.d W.d), none, none, none, none, none, none, none, none, none]) (L := L) (fun r : Rd => Va.d r.d) (fun r => Va.d (.int r.w)) W.rs (by simp [Wb.d, srcOf]) (by omega) (by
          intro r hr
          refine ⟨[some (.d W.d), none, none, none, none, none, some (.d (.int r.u)), some (.d (.int r.v)), some (.d (.int r.l)), some (.d (.int r.w))], by simp [Rd.d, wipeE], by simp⟩)
        have hw : W.rs.map (fun r => Va.d (.int r.w)) = (frW W).map (fun x => Va.d (.int x)) := by simp [frW]
        simp [c1, hw, frO]
      · refine seq_nx (env1 := [some (.d W.d), some (.loc L.length), some (.loc (L.length + 1)), none, none, none, none, none, none, none]) (L1 := HM L (frW W) []) (by simp [HM]) ?_
        refine seq_nx (env1 := [some (.d W.d), some (.loc L.length), some (.loc (L.length + 1)), some (wayV l), none, none, none, none, none, none]) (L1 := HM L (frW W) []) (by simp [way_next g (hm_fr L (frW W) []) f1 hl]) ?_
        exact seq_nx e1 (by simp)
  · rintro k env M ⟨fr, pre, rest, a, b, c, d, e, f, hR, h1, h2, rfl, hf, rfl, rfl⟩
    cases hR with
    | nil _ =>
      have : pre = l := by simpa using hf
      subst this
      exact .inl ⟨HM L fr pre, by simp [wayV, Va.isN], _, _, _, _, _, _, _, _, rfl, rfl⟩
    | @cons _ p n rest hp hn hrest =>
      refine .inr ⟨HM L fr pre, by simp [wayV, Va.isN], ?_⟩
      have nd := gw_nodup g hp
      have lt := gw_lt g h1 hp
      have plen := gw_len g hp
      obtain ⟨s1, s2, s3⟩ := sub_ok g h1 h2 hp hn
      obtain ⟨x, hx⟩ := sub_loop (W := W) (L := L) (pre := pre) (n := n) (fr := fr) (p := p) (fun i hi => (lt i hi).1) (a := b) (b := c) (c := d) (d := e) (e := f) (wv := .d (.tuple (nI p)))
      have c1 := fComp_tym (s := srcV (eVar 3)) (g := tN 5) (f := eOp opIx (eVar 1) (eVar 5)) (vs := [5]) (env := [some (.d W.d), some (.loc L.length), some (.loc (L.length + 1)), some (.d (.tuple (nI p))), a, b, c, d, e, f]) (L := HM L fr pre) (fun i : Nat => Va.d (.int (i : Int))) (fun i => Va.d (.int (fr.getD i 0))) p (by simp [srcOf]) (by omega) (by
        intro i hi
        have hf := hm_fr L fr pre
        have d1 : Va.dget (HM L fr pre) (.loc L.length) (.d (.int i)) = none := by simp only [Va.dget, hf, frO]
        have d2 : Va.seq (HM L fr pre) (.loc L.length) = some (fr.map fun x => Va.d (.int x)) := by simp only [Va.seq, hf, frO]
        have hat := frs_at (lt i hi).1
        obtain ⟨q, hq⟩ : ∃ q, q = fr.getD i 0 := ⟨_, rfl⟩
        rw [← hq] at hat ⊢
        exact ⟨_, rfl, by simp [wipeE, d1, d2, hat]⟩)
      have c2 := fComp_tym (s := srcV (eVar 3)) (g := tN 5) (f := eOp opIx (eOp opIx (eOp opIx (eVar 0) (eC (.int 3))) (eVar 5)) (eC (.int 2))) (vs := [5]) (env := [some (.d W.d), some (.loc L.length), some (.loc (L.length + 1)), some (.d (.tuple (nI p))), some (.d (.int n)), x, c, d, e, f]) (L := HM L (subW n fr p) pre) (fun i : Nat => Va.d (.int (i : Int))) (fun i => Va.d (.int ((W.rs[i]?.map Rd.l).getD 0))) p (by simp [srcOf]) (by omega) (by
        intro i hi
        obtain ⟨r, dd, k1, _⟩ := gw_le g hp i hi
        have hat := rs_at k1
        refine ⟨_, rfl, ?_⟩
        rw [k1]
        simp only [List.map_map] at hat
        simp [wipeE, Wb.d, Va.seq, Va.dget, hat, Rd.d])
      have e2 : cMin1X [.d (.list (p.map fun i => PyData.int (fr.getD i 0)))] (HM L fr pre) = .ok (.d (.int n)) (HM L fr pre) := by
        have := cMin1_ints hn (HM L fr pre)
        rw [getF, List.map_map] at this
        exact this
      have e3 : cSum [.d (.list (p.map fun i => PyData.int ((W.rs[i]?.map Rd.l).getD 0)))] (HM L (subW n fr p) pre) = .ok (.d (.int (wlen W p))) (HM L (subW n fr p) pre) := by
        have := cSum_ints (p.map fun i => (W.rs[i]?.map Rd.l).getD 0) (HM L (subW n fr p) pre)
        rw [List.map_map] at this
        exact this
      have hpre : pre.length < sizeLine := by
        have : pre.length ≤ l.length := by rw [← hf]; simp
        omega
      have hfd := hm_fd L (subW n fr p) pre
      have hset := hm_set_fd L (subW n fr p) pre (.lst ((pre.map Hw.d).map Va.d ++ [.d (Hw.d (wlen W p, n, p))]))
      have hend : L ++ [some (frO (subW n fr p)), some (Ob.lst ((pre.map Hw.d).map Va.d ++ [.d (Hw.d (wlen W p, n, p))]))] = HM L (subW n fr p) (pre ++ [(wlen W p, n, p)]) := by simp [HM]
      have hfw := way_next g (hm_fr L (subW n fr p) (pre ++ [(wlen W p, n, p)])) (by rw [sub_len, h1]) hrest
      refine ⟨[some (.d W.d), some (.loc L.length), some (.loc (L.length + 1)), some (wayV rest), some (.d (.int n)), x, c, d, e, f], HM L (subW n fr p) (pre ++ [(wlen W p, n, p)]), .inl ?_, rest.length, by simp, subW n fr p, pre ++ [(wlen W p, n, p)], rest, _, _, _, _, _, _, hrest, by rw [sub_len, h1], s2, rfl, by simpa using hf, rfl, rfl⟩
      refine seq_nx (env1 := [some (.d W.d), some (.loc L.length), some (.loc (L.length + 1)), some (.d (.tuple (nI p))), some (.d (.int n)), b, c, d, e, f]) (L1 := HM L fr pre) ?_ ?_
      · simp [-u_eCallB, callB_dat c1 e2, wayV]
      · refine seq_nx (for_nx (ws := (nI p).map Va.d) (by simp [srcOf]) hx) ?_
        refine seq_nx (env1 := [some (.d W.d), some (.loc L.length), some (.loc (L.length + 1)), some (.d (.tuple (nI p))), some (.d (.int n)), x, c, d, e, f]) (L1 := HM L (subW n fr p) (pre ++ [(wlen W p, n, p)])) ?_ ?_
        · rw [← hend, ← hset]
          obtain ⟨M, hM⟩ : ∃ M, M = HM L (subW n fr p) pre := ⟨_, rfl⟩
          rw [← hM] at c2 e3 hfd ⊢
          have h3 : 3 ≤ sizeLine := by omega
          simp [-u_eCallB, callB_dat c2 e3, hfd, hpre, h3, Hw.d]
        · simp [hfw]
end L2.HW
namespace L2.HW
open PySem PySem.Spec PyProof.Rows
abbrev Row := Int × Int
def Row.d (r : Row) : PyData := .tuple [.int r.1, .int r.2]
def bro (rows : List Row) (t : Int) : Int := (rows.map fun r => r.2 * max 0 (t + 1 - r.1)).sum
def small (x : Int) : Prop := x.natAbs < 2 ^ 200
theorem small_log {x : Int} (h : small x) : x.natAbs.log2 < 200 := by
  by_cases z : x.natAbs = 0
  · rw [z]; decide
  · exact (Nat.log2_lt z).mpr h
theorem log_of {x : Int} {k : Nat} (hk : 0 < k) (h : x.natAbs < 2 ^ k) : x.natAbs.log2 < k := by
  by_cases z : x.natAbs = 0
  · rw [z]; exact hk
  · exact (Nat.log2_lt z).mpr h
theorem mul_ok {a b : Int} {k : Nat} (ha : small a) (hb : b.natAbs < 2 ^ k) (hk : 0 < k) (hk2 : k ≤ 900000) : mulC a b = true := by
  have h1 := small_log ha
  have h2 := log_of hk hb
  exact decide_eq_true (by omega)
theorem brought_run {rows : List Row} {t : Int} (hr : ∀ r ∈ rows, small r.1 ∧ small r.2) (ht : t.natAbs < 2 ^ 202) (hl : rows.length ≤ 16000000) (L : LH) : F_brought [.d (.list (rows.map Row.d)), .d (.int t)] L = .ok (.d (.int (bro rows t))) L := by
  have hz := sizeLine_eq
  have c1 := fComp_tym (s := srcV (eVar 0)) (g := tTupT 2 (tgCons (tN 2) (tgCons (tN 3) tgNil))) (f := eOp opMul (eVar 3) (eCallB cMax2 (aCons (eC (.int 0)) (aCons (eOp opSub (eOp opAdd (eVar 1) (eC (.int 1))) (eVar 2)) aNil)))) (vs := [2, 3]) (env := [some (.d (.list (rows.map Row.d))), some (.d (.int t)), none, none]) (L := L) (fun r : Row => Va.d r.d) (fun r => Va.d (.int (r.2 * max 0 (t + 1 - r.1)))) rows (by simp [srcOf]) (by omega) (by
    intro r hrr
    obtain ⟨h1, h2⟩ := hr r hrr
    have hm : mulC r.2 (max 0 (t + 1 - r.1)) = true := by
      refine mul_ok (k := 240) h2 ?_ (by omega) (by omega)
      unfold small at h1
      omega
    exact ⟨[some (.d (.list (rows.map Row.d))), some (.d (.int t)), some (.d (.int r.1)), some (.d (.int r.2))], by simp [Row.d, wipeE], by
      have := cMax2_eq 0 (t + 1 - r.1) L
      simp [-u_cMax2, this, hm]⟩)
  refine fn_rt (L' := L) rfl ?_
  have e := callB_dat c1 (h := fun r : Row => .int (r.2 * max 0 (t + 1 - r.1))) (c := cSum) (w := .d (.int (bro rows t))) (by
    have := cSum_ints (rows.map fun r => r.2 * max 0 (t + 1 - r.1)) L
    rw [List.map_map] at this
    exact this)
  unfold b_brought
  rw [u_sRet]
  show (eCallB cSum _ [some (.d (.list (rows.map Row.d))), some (.d (.int t)), none, none] L).then _ _ = _
  rw [e]
  rfl
theorem rows_fine {rows : List Row} (h : ∀ r ∈ rows, small r.1 ∧ small r.2) : fine (.list (rows.map Row.d)) = true := by
  simp only [fine]
  refine fineAll_iff.mpr fun x hx => ?_
  obtain ⟨r, hr, rfl⟩ := List.mem_map.mp hx
  have h1 := small_log (h r hr).1
  have h2 := small_log (h r hr).2
  have h3 : r.1.natAbs.log2 < 1920 := by omega
  have h4 : r.2.natAbs.log2 < 1920 := by omega
  simp [Row.d, fine, fineAll, h3, h4]
theorem rows_depth (rows : List Row) : (PyData.list (rows.map Row.d)).depth ≤ 2 := by
  simp only [PyData.depth]
  have : PyData.depthAll (rows.map Row.d) ≤ 1 := depthAll_le.mpr fun x hx => by
    obtain ⟨r, hr, rfl⟩ := List.mem_map.mp hx
    simp [Row.d, PyData.depth, PyData.depthAll]
  omega
theorem bro_neg {rows : List Row} (h : ∀ r ∈ rows, 0 ≤ r.1) {t : Int} (ht : t < 0) : bro rows t = 0 := by
  unfold bro
  induction rows with
  | nil => rfl
  | cons r rows ih =>
    have := h r List.mem_cons_self
    rw [List.map_cons, List.sum_cons, ih fun x hx => h x (List.mem_cons_of_mem _ hx)]
    have : max 0 (t + 1 - r.1) = 0 := by omega
    rw [this]; simp
theorem bro_nonneg {rows : List Row} (h : ∀ r ∈ rows, 0 ≤ r.2) (t : Int) : 0 ≤ bro rows t := by
  unfold bro
  induction rows with
  | nil => exact Int.le_refl _
  | cons r rows ih =>
    have h1 := h r List.mem_cons_self
    have h2 := ih fun x hx => h x (List.mem_cons_of_mem _ hx)
    rw [List.map_cons, List.sum_cons]
    have : 0 ≤ r.2 * max 0 (t + 1 - r.1) := Int.mul_nonneg h1 (by omega)
    omega
theorem bro_head {r : Row} {rows : List Row} (h : ∀ x ∈ r :: rows, 0 ≤ x.2) (h1 : 1 ≤ r.2) {n : Int} (hn : 0 ≤ n) : n ≤ bro (r :: rows) (r.1 + n) := by
  have h2 := bro_nonneg (rows := rows) (fun x hx => h x (List.mem_cons_of_mem _ hx)) (r.1 + n)
  unfold bro at *
  rw [List.map_cons, List.sum_cons]
  have e : max 0 (r.1 + n + 1 - r.1) = n + 1 := by omega
  rw [e]
  have : 1 * (n + 1) ≤ r.2 * (n + 1) := Int.mul_le_mul_of_nonneg_right h1 (by omega)
  omega
def TFI (rows : List Row) (n : Int) (L : LH) (k : Nat) (env : En) (M : LH) : Prop := ∃ lo hi a, env = [some (.d (.list (rows.map Row.d))), some (.d (.int n)), some (.d (.int lo)), some (.d (.int hi)), a] ∧ M = L ∧ -1 ≤ lo ∧ lo < hi ∧ hi.natAbs < 2 ^ 201 ∧ k = (hi - lo).toNat ∧ bro rows lo < n ∧ n ≤ bro rows hi
theorem time_run {r : Row} {rows : List Row} {n : Int} (hr : ∀ x ∈ r :: rows, small x.1 ∧ small x.2 ∧ 0 ≤ x.1 ∧ 1 ≤ x.2) (hn : 1 ≤ n) (hs : small n) (hl : (r :: rows).length ≤ 16000000) (L : LH) :
    ∃ h : Int, F_time_for [.d (.list ((r :: rows).map Row.d)), .d (.int n)] L = .ok (.d (.int h)) L ∧ bro (r :: rows) (h - 1) < n ∧ n ≤ bro (r :: rows) h := by
  have hr0 := hr r List.mem_cons_self
  have hs' := hs
  unfold small at hs'
  have hr1 := hr0.1
  unfold small at hr1
  have W1 := while_inv (t := tVal (eOp opGt (eOp opSub (eVar 3) (eVar 2)) (eC (.int 1)))) (body := b_time_for_1) (I := TFI (r :: rows) n L) (J := fun env M => ∃ lo hi a, env = [some (.d (.list ((r :: rows).map Row.d))), some (.d (.int n)), some (.d (.int lo)), some (.d (.int hi)), a] ∧ M = L ∧ lo = hi - 1 ∧ bro (r :: rows) lo < n ∧ n ≤ bro (r :: rows) hi) (n := (r.1 + n - -1).toNat) (env := [some (.d (.list ((r :: rows).map Row.d))), some (.d (.int n)), some (.d (.int (-1))), some (.d (.int (r.1 + n))), none]) (L := L) ?_ ⟨-1, r.1 + n, none, rfl, rfl, by omega, by omega, by omega, rfl, by rw [bro_neg (fun x hx => (hr x hx).2.2.1) (by omega)]; omega, bro_head (fun x hx => by have := (hr x hx).2.2.2; omega) hr0.2.2.2 (by omega)⟩
  · obtain ⟨env', L', e4, lo, hi, a, rfl, rfl, rfl, b1, b2⟩ := W1
    refine ⟨hi, fn_rt (L' := L') rfl ?_, b1, b2⟩
    refine seq_nx (env1 := [some (.d (.list ((r :: rows).map Row.d))), some (.d (.int n)), none, none, none]) (L1 := L') ?_ ?_
    · have sh : SeqAt.shaped (.list ((r :: rows).map Row.d)) = true := shaped_of (rows_fine fun x hx => ⟨(hr x hx).1, (hr x hx).2.1⟩) (Nat.le_trans (rows_depth _) (by omega))
      have sh0 : SeqAt.shaped (.list []) = true := by simp [SeqAt.shaped, PyData.canLay0, PyData.depth, PyData.canLayAll0, PyData.depthAll]
      have := cmpOk_of sh sh0
      have q : PyData.eqv (.list ((r :: rows).map Row.d)) (.list []) = false := by simp [PyData.eqv, PyData.eqvAll]
      rw [List.map_cons] at this q
      simp [this, q]
    · refine seq_nx (env1 := [some (.d (.list ((r :: rows).map Row.d))), some (.d (.int n)), some (.d (.int (-1))), some (.d (.int (r.1 + n))), none]) (L1 := L') (by simp [Row.d]) ?_
      exact seq_nx e4 (by simp)
  · rintro k env M ⟨lo, hi, a, rfl, rfl, h1, h2, h3, rfl, b1, b2⟩
    by_cases h : 1 < hi - lo
    · refine .inr ⟨M, by simp [opGt, h], ?_⟩
      have d1 := Int.mul_ediv_add_emod (lo + hi) 2
      have d2 := Int.emod_nonneg (lo + hi) (show (2 : Int) ≠ 0 by omega)
      have d3 := Int.emod_lt_of_pos (lo + hi) (show (0 : Int) < 2 by omega)
      have hdiv : divC (lo + hi) 2 = true := decide_eq_true ⟨by omega, by decide⟩
      have z2 : 2 ≤ sizeLine := by have := sizeLine_eq; omega
      have hb := brought_run (rows := r :: rows) (t := (lo + hi) / 2) (fun x hx => ⟨(hr x hx).1, (hr x hx).2.1⟩) (by omega) hl M
      by_cases hc : n ≤ bro (r :: rows) ((lo + hi) / 2)
      · refine ⟨[some (.d (.list ((r :: rows).map Row.d))), some (.d (.int n)), some (.d (.int lo)), some (.d (.int ((lo + hi) / 2))), some (.d (.int ((lo + hi) / 2)))], M, .inl ?_, ((lo + hi) / 2 - lo).toNat, by omega, lo, (lo + hi) / 2, _, rfl, rfl, h1, by omega, by omega, rfl, b1, hc⟩
        simp only [List.map_cons] at hb
        simp [b_time_for_1, hdiv, hb, opGe, hc, z2]
      · refine ⟨[some (.d (.list ((r :: rows).map Row.d))), some (.d (.int n)), some (.d (.int ((lo + hi) / 2))), some (.d (.int hi)), some (.d (.int ((lo + hi) / 2)))], M, .inl ?_, (hi - (lo + hi) / 2).toNat, by omega, (lo + hi) / 2, hi, _, rfl, rfl, by omega, by omega, h3, rfl, by omega, b2⟩
        simp only [List.map_cons] at hb
        simp [b_time_for_1, hdiv, hb, opGe, hc, z2]
    · exact .inl ⟨M, by simp [opGt, h], lo, hi, a, rfl, rfl, by omega, b1, b2⟩
end L2.HW
namespace L2.HW
open PySem PySem.Spec PyProof.Rows
def wholeB : PyData → Bool
  | .int i => decide (0 ≤ i)
  | _ => false
def fromB (l : Int) : PyData → Bool
  | .int i => decide (l ≤ i)
  | _ => false
def placeB (m : Int) : PyData → Bool
  | .int i => decide (0 ≤ i) && decide (i < m)
  | _ => false
@[simp] theorem F_is_whole_eq (x : PyData) (L : LH) : F_is_whole [.d x] L = .ok (.d (.bool (wholeB x))) L := by
  cases x <;> simp [F_is_whole, b_is_whole, mkFn, Va.kind, isKind, opGe, wholeB]
@[simp] theorem F_l_whole_eq (x : PyData) (L : LH) : F_l_whole [.d x] L = .ok (.d (.bool (match x with | .int _ => true | _ => false))) L := by
  cases x <;> simp [F_l_whole, b_l_whole, mkFn, Va.kind, isKind]
@[simp] theorem F_is_more_eq (x : PyData) (L : LH) : F_is_more [.d x] L = .ok (.d (.bool (fromB 1 x))) L := by
  cases x with
  | int i =>
    simp [F_is_more, b_is_more, mkFn, wholeB, opGt, fromB]
    by_cases h : 0 ≤ i
    · simp [h]; omega
    · simp [h]; omega
  | _ => simp [F_is_more, b_is_more, mkFn, wholeB, fromB]
@[simp] theorem F_is_place_eq (m : Int) (x : PyData) (L : LH) : F_is_place [.d (.int m), .d x] L = .ok (.d (.bool (placeB m x))) L := by
  cases x with
  | int i =>
    simp [F_is_place, b_is_place, mkFn, wholeB, placeB]
    by_cases h : 0 ≤ i <;> simp [h]
  | _ => simp [F_is_place, b_is_place, mkFn, wholeB, placeB]
@[simp] theorem F_l_is_from_eq (l : Int) (x : PyData) (L : LH) : F_l_is_from [.d x, .d (.int l)] L = .ok (.d (.bool (fromB l x))) L := by
  cases x <;> simp [F_l_is_from, b_l_is_from, mkFn, fromB, opGe]
@[simp] theorem F_l_is_place_eq (m : Int) (x : PyData) (L : LH) : F_l_is_place [.d (.int m), .d x] L = .ok (.d (.bool (placeB m x))) L := by
  cases x with
  | int i =>
    simp [F_l_is_place, b_l_is_place, mkFn, fromB, placeB]
    by_cases h : 0 ≤ i <;> simp [h]
  | _ => simp [F_l_is_place, b_l_is_place, mkFn, fromB, placeB]
def roadB (m e : Int) : PyData → Bool
  | .tuple [.int u, .int v, .int l, .int w] => decide (0 ≤ u) && decide (u < m) && (decide (0 ≤ v) && decide (v < m)) && !decide (u = v) && !decide (u = e) && decide (1 ≤ l) && decide (1 ≤ w)
  | _ => false
theorem placeB_int {m : Int} {x : PyData} (h : placeB m x = true) : ∃ i, x = .int i := by
  cases x <;> simp [placeB] at h ⊢
theorem shaped_int (i : Int) : SeqAt.shaped (.int i) = true := by simp [SeqAt.shaped, PyData.canLay0, PyData.depth]
theorem four_some {xs : List PyData} (h : xs.length = 4) : ∃ a b c d, xs = [a, b, c, d] := by
  match xs, h with
  | [a, b, c, d], _ => exact ⟨a, b, c, d, rfl⟩
theorem roadB_tup {m e : Int} {xs : List PyData} (h : xs.length ≠ 4) : roadB m e (.tuple xs) = false := by
  unfold roadB
  split
  · rename_i h2; cases h2; simp at h
  · rfl
theorem roadB_4 {m e : Int} (u v l w : PyData) : roadB m e (.tuple [u, v, l, w]) = (placeB m u && placeB m v && !PyData.eqv u v && !PyData.eqv u (.int e) && fromB 1 l && fromB 1 w) := by
  cases u <;> first | rfl | skip
  cases v <;> first | simp [roadB, placeB]
  cases l <;> first | simp [roadB, fromB]
  cases w <;> first | simp [roadB, fromB]
  rename_i u v l w
  simp [roadB, placeB, fromB, eqv_int]
@[simp] theorem F_is_road_eq (m e : Int) (x : PyData) (L : LH) : F_is_road [.d (.int m), .d (.int e), .d x] L = .ok (.d (.bool (roadB m e x))) L := by
  cases x with
  | tuple xs =>
    by_cases h : xs.length = 4
    · obtain ⟨u, v, l, w, rfl⟩ := four_some h
      rw [roadB_4]
      simp [F_is_road, b_is_road, mkFn, Va.kind, isKind, shaped_int, eqv_int]
      by_cases h1 : placeB m u
      · obtain ⟨u, rfl⟩ := placeB_int h1
        by_cases h2 : placeB m v
        · obtain ⟨v, rfl⟩ := placeB_int h2
          by_cases h3 : u = v <;> by_cases h4 : u = e <;> by_cases h5 : fromB 1 l <;> simp [h1, h2, shaped_int, eqv_int, h3, h4, h5]
          all_goals (try subst h3) <;> simp_all
        · simp [h1, h2]
      · simp [h1]
    · rw [roadB_tup h]
      have h' : ¬ ((xs.length : Int) = 4) := by omega
      simp [F_is_road, b_is_road, mkFn, Va.kind, isKind, shaped_int, eqv_int, h, h']
  | _ => simp [F_is_road, b_is_road, mkFn, Va.kind, isKind, roadB]
@[simp] theorem F_l_is_road_eq (m e : Int) (x : PyData) (L : LH) : F_l_is_road [.d (.int m), .d (.int e), .d x] L = .ok (.d (.bool (roadB m e x))) L := by
  cases x with
  | tuple xs =>
    by_cases h : xs.length = 4
    · obtain ⟨u, v, l, w, rfl⟩ := four_some h
      rw [roadB_4]
      simp [F_l_is_road, b_l_is_road, mkFn, Va.kind, isKind, shaped_int, eqv_int]
      by_cases h1 : placeB m u
      · obtain ⟨u, rfl⟩ := placeB_int h1
        by_cases h2 : placeB m v
        · obtain ⟨v, rfl⟩ := placeB_int h2
          by_cases h3 : u = v <;> by_cases h4 : u = e <;> by_cases h5 : fromB 1 l <;> simp [h1, h2, shaped_int, eqv_int, h3, h4, h5]
          all_goals (try subst h3) <;> simp_all
        · simp [h1, h2]
      · simp [h1]
    · rw [roadB_tup h]
      have h' : ¬ ((xs.length : Int) = 4) := by omega
      simp [F_l_is_road, b_l_is_road, mkFn, Va.kind, isKind, shaped_int, eqv_int, h, h']
  | _ => simp [F_l_is_road, b_l_is_road, mkFn, Va.kind, isKind, roadB]
def webB : PyData → Bool
  | .tuple [.int m, b, e, .tuple rs] => decide (2 ≤ m) && placeB m b && placeB m e && !PyData.eqv b e && match e with
    | .int e => rs.all (roadB m e)
    | _ => false
  | _ => false
theorem webB_tup {xs : List PyData} (h : xs.length ≠ 4) : webB (.tuple xs) = false := by
  unfold webB
  split
  · rename_i h2; cases h2; simp at h
  · rfl
def fewB : PyData → Prop
  | .tuple [_, _, _, .tuple rs] => rs.length ≤ sizeLine
  | _ => True
theorem cAll_map (rs : List PyData) (p : PyData → Bool) (L : LH) : cAll [.d (.list (rs.map fun x => .bool (p x)))] L = .ok (.d (.bool (rs.all p))) L := by
  have e : boolsOf ((rs.map fun x => PyData.bool (p x)).map Va.d) = some (rs.map p) := by
    induction rs with
    | nil => rfl
    | cons a r ih => simp only [List.map_cons, boolsOf, ih]; rfl
  have e2 : Va.items L (.d (.list (rs.map fun x => .bool (p x)))) = some ((rs.map fun x => PyData.bool (p x)).map Va.d) := rfl
  simp only [cAll, one, e2, e]
  congr 3
  rw [List.all_map]
  rfl
theorem webB_4 {m b e r : PyData} : webB (.tuple [m, b, e, r]) = (match m, e, r with | .int m, .int e, .tuple rs => decide (2 ≤ m) && placeB m b && placeB m (.int e) && !PyData.eqv b (.int e) && rs.all (roadB m e) | _, _, _ => false) := by
  cases m <;> try rfl
  cases r <;> try (cases e <;> rfl)
  cases e <;> simp [webB]
theorem F_is_right_web_eq (x : PyData) (hx : fewB x) (L : LH) : F_is_right_web [.d x] L = .ok (.d (.bool (webB x))) L := by
  cases x with
  | tuple xs =>
    by_cases h : xs.length = 4
    · obtain ⟨m, b, e, r, rfl⟩ := four_some h
      rw [webB_4]
      by_cases h0 : wholeB m
      · obtain ⟨m, rfl⟩ : ∃ i, m = .int i := by cases m <;> simp [wholeB] at h0 ⊢
        by_cases h1 : m < 2
        · have : ¬ 2 ≤ m := by omega
          simp [F_is_right_web, b_is_right_web, mkFn, Va.kind, isKind, shaped_int, eqv_int, h0, h1, atI, ixN]
          cases e <;> cases r <;> simp [this]
        · have h1' : 2 ≤ m := by omega
          simp [F_is_right_web, b_is_right_web, mkFn, Va.kind, isKind, shaped_int, eqv_int, h0, h1, atI, ixN]
          by_cases h2 : placeB m b
          · obtain ⟨b, rfl⟩ := placeB_int h2
            by_cases h3 : placeB m e
            · obtain ⟨e, rfl⟩ := placeB_int h3
              by_cases h4 : b = e
              · subst h4
                simp [h2, h3, shaped_int, eqv_int]
                cases r <;> simp
              · simp [h2, h3, h4, shaped_int, eqv_int, h1']
                cases r with
                | tuple rs =>
                  have hz : rs.length ≤ sizeLine := hx
                  simp [Va.kind, isKind]
                  rw [fComp_map (xs := rs) (h := fun x => .bool (roadB m e x)) (by simp [srcOf]) hz (fun x _ => ⟨_, rfl, by simp [wipeE]⟩)]
                  have h2' : 0 ≤ b ∧ b < m := by simpa [placeB] using h2
                  simp [cAll_map, h2, h3, h4, h1']
                | _ => simp [Va.kind, isKind]
            · simp [h2, h3]
              cases e <;> cases r <;> simp_all
          · simp [h2]
            cases e <;> cases r <;> simp_all
      · simp [F_is_right_web, b_is_right_web, mkFn, Va.kind, isKind, shaped_int, eqv_int, h0, atI, ixN]
        cases m <;> cases e <;> cases r <;> simp [wholeB] at h0 ⊢
        all_goals omega
    · rw [webB_tup h]
      have h' : ¬ ((xs.length : Int) = 4) := by omega
      simp [F_is_right_web, b_is_right_web, mkFn, Va.kind, isKind, shaped_int, eqv_int, h, h']
  | _ => simp [F_is_right_web, b_is_right_web, mkFn, Va.kind, isKind, webB]
end L2.HW
namespace L2.HW
open PySem PySem.Spec PyProof.Rows
theorem eqv_nil (xs : List PyData) : PyData.eqv (.list xs) (.list []) = xs.isEmpty := by
  cases xs <;> simp [PyData.eqv, PyData.eqvAll]
end L2.HW
namespace L2.HW
open PySem PySem.Spec PyProof.Rows
def GoodRoad (m e : Int) (r : PyData) : Prop := ∃ u v l w : Int, r = .tuple [.int u, .int v, .int l, .int w] ∧ 0 ≤ u ∧ u < m ∧ u ≠ e ∧ 0 ≤ v ∧ v < m ∧ v ≠ u ∧ 1 ≤ l ∧ l ≤ 5 ∧ 1 ≤ w ∧ w ≤ 3
theorem roads_ex {L : LH} {n : Nat} {p m e c : Int} (hn : n < L.length) (hm : 2 ≤ m) (hm2 : m ≤ 1000) (he : 0 ≤ e) (he2 : e < m) (hc : 0 ≤ c) (hc2 : c ≤ 10000) :
    ∃ rs p', F_l_roads [.loc n, .d (.int m), .d (.int e), .d (.int c)] (L.set n (P1 p)) = .ok (.d (.tuple rs)) (L.set n (P1 p')) ∧ rs.length = c.toNat ∧ ∀ r ∈ rs, GoodRoad m e r := by
  have hz : c.toNat ≤ sizeLine := by rw [sizeLine_eq]; omega
  have loop := forL_inv (g := tN 5) (body := b_l_roads_1)
    (I := fun ws env M => ∃ (rs : List PyData) (q : Int) (a b d : Option Va), env = [some (.loc n), some (.d (.int m)), some (.d (.int e)), some (.d (.int c)), some (.loc L.length), a, b, d] ∧ M = (L ++ [some (Ob.lst (rs.map Va.d))]).set n (P1 q) ∧ rs.length + ws.length = c.toNat ∧ ∀ r ∈ rs, GoodRoad m e r)
    (rngV 0 c.toNat) [some (.loc n), some (.d (.int m)), some (.d (.int e)), some (.d (.int c)), some (.loc L.length), none, none, none] (L.set n (P1 p) ++ [some (Ob.lst [])]) ⟨[], p, none, none, none, rfl, set_app hn, by simp [rngV], by simp⟩ ?_
  · obtain ⟨env', L', e1, rs, q, a, b, d, rfl, rfl, h1, h2⟩ := loop
    refine ⟨rs, q, ?_, by simpa using h1, h2⟩
    have hb := rng_ok hc (show c ≤ 1000000 by omega)
    simp [F_l_roads, b_l_roads, mkFn, sFor, hb, e1, Va.items, get_top hn, get_top' hn, outV_set', hn, sizeLine_eq]
  · rintro w r env M ⟨rs, q, a, b, d, rfl, rfl, h1, h2⟩
    have hz2 : rs.length < 16777216 := by simp at h1; omega
    obtain ⟨u, p1, u0, u1, eu⟩ := take_cell (p := q) (o := some (Ob.lst (rs.map Va.d))) hn (show 0 < m - 1 by omega) (log_small (by omega) (by omega))
    obtain ⟨v, p2, v0, v1, ev⟩ := take_cell (p := p1) (o := some (Ob.lst (rs.map Va.d))) hn (show 0 < m - 1 by omega) (log_small (by omega) (by omega))
    obtain ⟨l, p3, l0, l1, el⟩ := take_cell (p := p2) (s := 5) (o := some (Ob.lst (rs.map Va.d))) hn (by omega)
    obtain ⟨w', p4, w0, w1, ew⟩ := take_cell (p := p3) (s := 3) (o := some (Ob.lst (rs.map Va.d))) hn (by omega)
    refine ⟨_, _, rfl, ?_⟩
    have cs : ∃ (U V : Int) (lw : Int), (if e ≤ u then u + 1 else u) = U ∧ (if U ≤ v then v + 1 else v) = V ∧ [0, 0, 1, 2, 4][l.toNat]? = some lw ∧ 0 ≤ lw ∧ lw ≤ 4 ∧ 0 ≤ U ∧ U < m ∧ U ≠ e ∧ 0 ≤ V ∧ V < m ∧ V ≠ U := by
      have hl : l = 0 ∨ l = 1 ∨ l = 2 ∨ l = 3 ∨ l = 4 := by omega
      refine ⟨_, _, (if l ≤ 1 then 0 else if l = 2 then 1 else if l = 3 then 2 else 4), rfl, rfl, ?_, ?_, ?_, ?_, ?_, ?_, ?_, ?_, ?_⟩
      · rcases hl with rfl | rfl | rfl | rfl | rfl <;> rfl
      all_goals split <;> (try split) <;> (try split) <;> omega
    obtain ⟨U, V, lw, eU, eV, elw, w0', w1', U0, U1, U2, V0, V1, V2⟩ := cs
    have hlw : atI ([PyData.int 0, .int 0, .int 1, .int 2, .int 4].map Va.d) l = some (Va.d (.int lw)) := by
      have hl : l = 0 ∨ l = 1 ∨ l = 2 ∨ l = 3 ∨ l = 4 := by omega
      rcases hl with rfl | rfl | rfl | rfl | rfl <;> (simp at elw; subst elw; rfl)
    have hlw2 : atI [Va.d (.int 0), Va.d (.int 0), Va.d (.int 1), Va.d (.int 2), Va.d (.int 4)] l = some (Va.d (.int lw)) := by
      have hl : l = 0 ∨ l = 1 ∨ l = 2 ∨ l = 3 ∨ l = 4 := by omega
      rcases hl with rfl | rfl | rfl | rfl | rfl <;> (simp at elw; subst elw; rfl)
    have go : b_l_roads_1 [some (.loc n), some (.d (.int m)), some (.d (.int e)), some (.d (.int c)), some (.loc L.length), some w, b, d] ((L ++ [some (Ob.lst (rs.map Va.d))]).set n (P1 q)) =
        .nx [some (.loc n), some (.d (.int m)), some (.d (.int e)), some (.d (.int c)), some (.loc L.length), some w, some (.d (.int U)), some (.d (.int V))] ((L ++ [some (Ob.lst ((rs ++ [PyData.tuple [.int U, .int V, .int (1 + lw), .int (1 + w')]]).map Va.d))]).set n (P1 p4)) := by
      have gt := get_top (L := L) (p := p4) (o := some (Ob.lst (rs.map Va.d))) hn
      by_cases hu : e ≤ u
      · rw [if_pos hu] at eU
        by_cases hv : U ≤ v
        · rw [if_pos hv] at eV
          simp [b_l_roads_1, eu, opGe, hu, eU, ev, hv, eV, el, hlw2, ew, get_top hn, get_top' hn, hz2, set_top hn, sizeLine_eq]
        · rw [if_neg hv] at eV
          subst eV
          simp [b_l_roads_1, eu, opGe, hu, eU, ev, hv, el, hlw2, ew, get_top hn, get_top' hn, hz2, set_top hn, sizeLine_eq]
      · rw [if_neg hu] at eU
        subst eU
        by_cases hv : u ≤ v
        · rw [if_pos hv] at eV
          simp [b_l_roads_1, eu, opGe, hu, ev, hv, eV, el, hlw2, ew, get_top hn, get_top' hn, hz2, set_top hn, sizeLine_eq]
        · rw [if_neg hv] at eV
          subst eV
          simp [b_l_roads_1, eu, opGe, hu, ev, hv, el, hlw2, ew, get_top hn, get_top' hn, hz2, set_top hn, sizeLine_eq]
    refine ⟨_, _, .inl go, rs ++ [PyData.tuple [.int U, .int V, .int (1 + lw), .int (1 + w')]], p4, _, _, _, rfl, rfl, by simp at h1 ⊢; omega, fun x hx => ?_⟩
    rcases List.mem_append.mp hx with hx | hx
    · exact h2 x hx
    · have : x = .tuple [.int U, .int V, .int (1 + lw), .int (1 + w')] := by simpa using hx
      exact ⟨U, V, 1 + lw, 1 + w', this, U0, U1, U2, V0, V1, V2, by omega, by omega, by omega, by omega⟩

def GoodWeb (top : Int) (w : PyData) : Prop := ∃ (m b e : Int) (rs : List PyData), w = .tuple [.int m, .int b, .int e, .tuple rs] ∧ 2 ≤ m ∧ m ≤ top ∧ 0 ≤ b ∧ b < m ∧ 0 ≤ e ∧ e < m ∧ b ≠ e ∧ rs.length ≤ (2 * m + 1).toNat ∧ ∀ r ∈ rs, GoodRoad m e r
theorem web_ex {L : LH} {n : Nat} {p top : Int} (hn : n < L.length) (ht : 2 ≤ top) (ht2 : top ≤ 1000) : ∃ w p', F_l_web [.loc n, .d (.int top)] (L.set n (P1 p)) = .ok (.d w) (L.set n (P1 p')) ∧ GoodWeb top w := by
  obtain ⟨a, p1, a0, a1, ea⟩ := take_ex (p := p) hn (show 0 < top - 1 by omega) (log_small (by omega) (by omega))
  obtain ⟨e, p2, e0, e1, ee⟩ := take_ex (p := p1) hn (show 0 < 2 + a by omega) (log_small (by omega) (by omega))
  obtain ⟨t, p3, t0, t1, et⟩ := take_ex (p := p2) hn (show 0 < 2 + a - 1 by omega) (log_small (by omega) (by omega))
  obtain ⟨c, p4, c0, c1, ec⟩ := take_ex (p := p3) hn (show 0 < 2 * (2 + a) + 2 by omega) (log_small (by omega) (by omega))
  obtain ⟨rs, p5, er, hl, hr⟩ := roads_ex (p := p4) (m := 2 + a) (e := e) (c := c) hn (by omega) (by omega) e0 e1 c0 (by omega)
  refine ⟨.tuple [.int (2 + a), .int ((e + 1 + t) % (2 + a)), .int e, .tuple rs], p5, ?_, 2 + a, (e + 1 + t) % (2 + a), e, rs, rfl, by omega, by omega, Int.emod_nonneg _ (by omega), Int.emod_lt_of_pos _ (by omega), e0, e1, ?_, by omega, hr⟩
  · have hm : modC (e + 1 + t) (2 + a) = true := decide_eq_true (by omega)
    have hmul : mulC 2 (2 + a) = true := by
      have := log_small (s := 2 + a) (by omega) (by omega)
      have h2 : (2 : Int).natAbs.log2 = 1 := by decide
      exact decide_eq_true (by omega)
    simp [F_l_web, b_l_web, mkFn, ea, ee, et, ec, er, hm, hmul, sizeLine_eq, outV_set0, hn]
  · by_cases h : e + 1 + t < 2 + a
    · rw [Int.emod_eq_of_lt (by omega) h]; omega
    · have : (e + 1 + t) % (2 + a) = e + 1 + t - (2 + a) := by
        rw [← Int.sub_emod_right, Int.emod_eq_of_lt (by omega) (by omega)]
      omega
end L2.HW
namespace L2.HW
open PySem PySem.Spec PyProof.Rows
theorem Ok.few {d b : Nat} {x : PyData} (h : Ok d b x) (hb : b ≤ 16000000) : fewB x := by
  unfold fewB
  split
  · rename_i a b' c rs
    have h2 := h.2.2
    have := len_bulk rs
    simp [PyData.bulk, PyData.bulkAll] at h2
    rw [sizeLine_eq]
    omega
  · trivial
theorem GoodRoad.ok {m e : Int} {r : PyData} (h : GoodRoad m e r) (hm : m ≤ 1000) : fine r = true ∧ r.depth ≤ 1 ∧ r.bulk ≤ 4 ∧ roadB m e r = true := by
  obtain ⟨u, v, l, w, rfl, h⟩ := h
  have lg : ∀ i : Int, 0 ≤ i → i ≤ 1000 → i.natAbs.log2 < 1920 := fun i h0 h1 => by
    have : i.natAbs < 2 ^ 1920 := by
      have : i.natAbs ≤ 1000 := by omega
      exact Nat.lt_of_le_of_lt this (by decide +kernel)
    by_cases z : i.natAbs = 0
    · rw [z]; decide
    · exact (Nat.log2_lt z).mpr this
  have h1 := lg u (by omega) (by omega)
  have h2 := lg v (by omega) (by omega)
  have h3 := lg l (by omega) (by omega)
  have h4 := lg w (by omega) (by omega)
  refine ⟨by simp [fine, fineAll, h1, h2, h3, h4], by simp [PyData.depth, PyData.depthAll], by simp [PyData.bulk, PyData.bulkAll], ?_⟩
  have : ¬ u = v := by omega
  simp [roadB, this]
  omega
theorem GoodWeb.ok {t : Int} {w : PyData} (h : GoodWeb t w) (ht : t ≤ 1000) : Ok 3 (4 + 5 * (2 * t + 1).toNat) w ∧ webB w = true := by
  obtain ⟨m, b, e, rs, rfl, h0, h1, h2, h3, h4, h5, h6, h7, h8⟩ := h
  have lg : ∀ i : Int, 0 ≤ i → i ≤ 1000 → i.natAbs.log2 < 1920 := fun i h0 h1 => by
    have : i.natAbs < 2 ^ 1920 := by
      have : i.natAbs ≤ 1000 := by omega
      exact Nat.lt_of_le_of_lt this (by decide +kernel)
    by_cases z : i.natAbs = 0
    · rw [z]; decide
    · exact (Nat.log2_lt z).mpr this
  have a1 := lg m (by omega) (by omega)
  have a2 := lg b (by omega) (by omega)
  have a3 := lg e (by omega) (by omega)
  have f : fineAll rs = true := fineAll_iff.mpr fun r hr => ((h8 r hr).ok (by omega)).1
  have d : PyData.depthAll rs ≤ 1 := depthAll_le.mpr fun r hr => ((h8 r hr).ok (by omega)).2.1
  have bk : ∀ rs : List PyData, (∀ r ∈ rs, r.bulk ≤ 4) → PyData.bulkAll rs ≤ 5 * rs.length := by
    intro rs
    induction rs with
    | nil => intro _; simp [PyData.bulkAll]
    | cons r rs ih =>
      intro h
      have := h r List.mem_cons_self
      have := ih fun x hx => h x (List.mem_cons_of_mem _ hx)
      simp [PyData.bulkAll]
      omega
  have b1 := bk rs fun r hr => ((h8 r hr).ok (by omega)).2.2.1
  refine ⟨⟨by simp [fine, fineAll, a1, a2, a3, f], by simp [PyData.depth, PyData.depthAll]; omega, by simp [PyData.bulk, PyData.bulkAll]; omega⟩, ?_⟩
  have : rs.all (roadB m e) = true := List.all_eq_true.mpr fun r hr => ((h8 r hr).ok (by omega)).2.2.2
  simp [webB, placeB, eqv_int, this]
  omega
end L2.HW
namespace L2.HW
open PySem PySem.Spec PyProof.Rows
theorem webB_good {W : Wb} (g : W.Good) : webB W.d = true := by
  have h : (W.rs.map Rd.d).all (roadB W.m W.e) = true := by
    rw [List.all_map]
    refine List.all_eq_true.mpr fun r hr => ?_
    have q := g.rs r hr
    have := q.u0; have := q.u1; have := q.ue; have := q.v0; have := q.v1; have := q.uv; have := q.l1; have := q.w1
    simp [roadB, Rd.d, *]
  have := g.m2; have := g.b0; have := g.b1; have := g.e0; have := g.e1; have := g.be
  simp [Wb.d, webB, placeB, eqv_int, *]
theorem look_web {W : Wb} (g : W.Good) (L : LH) : F_look_at_web [.d W.d] L = .ok (.d .none) L := by
  have h := F_is_right_web_eq W.d (by have := g.len; have := sizeLine_eq; simp [Wb.d, fewB]; omega) L
  rw [webB_good g] at h
  simp [F_look_at_web, b_look_at_web, mkFn, h]
theorem look_moment {t : Int} (h : 0 ≤ t) (L : LH) : F_look_at_moment [.d (.int t)] L = .ok (.d .none) L := by
  simp [F_look_at_moment, b_look_at_moment, mkFn, wholeB, h]
theorem look_number {n : Int} (h : 1 ≤ n) (L : LH) : F_look_at_number [.d (.int n)] L = .ok (.d .none) L := by
  simp [F_look_at_number, b_look_at_number, mkFn, fromB, h]
theorem hurried_run {W : Wb} (g : W.Good) {l : List Hw} (hl : Hur W (frW W) l) (L : LH) : F_hurried [.d W.d] L = .ok (.lst ((l.map Hw.d).map Va.d)) L := by
  refine fnF_rf (g := []) rfl ?_
  rw [List.append_nil]
  have h1 := look_web g L
  have h2 := found_hurried_run g hl L
  simp [-List.map_map, b_hurried, h1, h2, fCall]
abbrev rowsH (l : List Hw) : List Row := l.map fun h => (h.1, h.2.1)
theorem hur_few {W : Wb} (g : W.Good) {l : List Hw} (hl : Hur W (frW W) l) : l.length ≤ W.rs.length := by
  obtain ⟨f1, f2⟩ := frW_ok g
  have := hur_len g hl f1 f2
  have := posN_le (frW W)
  omega
theorem found_rows_run {W : Wb} (g : W.Good) {l : List Hw} (hl : Hur W (frW W) l) (L : LH) : F_found_rows [.d W.d] L = .ok (.d (.list ((rowsH l).map Row.d))) L := by
  have hz := sizeLine_eq
  have z2 : 2 ≤ sizeLine := by omega
  have hf := hur_few g hl
  have hg := g.len
  have h2 := found_hurried_run g hl L
  have c1 := fComp_tym (s := srcV (eDat (fCall F_found_hurried (aCons (eVar 0) aNil)))) (g := tTupT 3 (tgCons (tN 1) (tgCons (tN 2) (tgCons (tN 3) tgNil)))) (f := eTup (aCons (eVar 1) (aCons (eVar 2) aNil))) (vs := [1, 2, 3]) (env := [some (.d W.d), none, none, none]) (L := L) (fun h : Hw => Va.d h.d) (fun h => Va.d (Row.d (h.1, h.2.1))) l (by simp [h2, fCall, srcOf]) (by omega) (by
    intro h _
    exact ⟨[some (.d W.d), some (.d (.int h.1)), some (.d (.int h.2.1)), some (.d (.tuple (nI h.2.2)))], by simp [Hw.d, wipeE], by simp [z2, Row.d]⟩)
  refine fn_rt (L' := L) rfl ?_
  unfold b_found_rows
  rw [u_sRet]
  show (eDat _ [some (.d W.d), none, none, none] L).then _ _ = _
  rw [u_eDat, c1]
  simp [rowsH, Function.comp_def]
def Wb.Sm (W : Wb) (B : Int) : Prop := ∀ r ∈ W.rs, r.l ≤ B ∧ r.w ≤ B
theorem wlen_le {W : Wb} {B : Int} (h : W.Sm B) (hB : 0 ≤ B) : ∀ p : List Nat, wlen W p ≤ p.length * B
  | [] => by simp [wlen]
  | i :: p => by
    have ih := wlen_le h hB p
    have : wlen W (i :: p) = (W.rs[i]?.map Rd.l).getD 0 + wlen W p := by simp [wlen]
    have h2 : (W.rs[i]?.map Rd.l).getD 0 ≤ B := by
      cases e : W.rs[i]? with
      | none => simpa using hB
      | some r => exact (h r (List.mem_of_getElem? e)).1
    rw [this, List.length_cons]
    have e3 : (((p.length + 1 : Nat) : Int)) * B = p.length * B + B := by
      rw [Int.natCast_add, Int.add_mul]; simp
    rw [e3]
    omega
theorem hur_rows {W : Wb} (g : W.Good) {B : Int} (hs : W.Sm B) (hB : 0 ≤ B) {fr : List Int} {l : List Hw} (h : Hur W fr l) : fr.length = W.rs.length → (∀ i, 0 ≤ fr.getD i 0) → (∀ i, fr.getD i 0 ≤ B) → ∀ x ∈ l, 1 ≤ x.1 ∧ x.1 ≤ 10000 * B ∧ 1 ≤ x.2.1 ∧ x.2.1 ≤ B ∧ ∀ i ∈ x.2.2, i < W.rs.length := by
  induction h with
  | nil => intro _ _ _ x hx; cases hx
  | @cons fr p n rest hp hn hrest ih =>
    intro h1 h2 h3 x hx
    obtain ⟨s1, s2, s3⟩ := sub_ok g h1 h2 hp hn
    rcases List.mem_cons.mp hx with rfl | hx
    · obtain ⟨w1, w2⟩ := gw_way g hp
      have hne := gw_ne g hp
      have hl := gw_len g hp
      refine ⟨?_, ?_, by show 1 ≤ n; omega, ?_, fun i hi => by have := (gw_lt g h1 hp i hi).1; omega⟩
      · cases p with
        | nil => exact absurd rfl hne
        | cons i p =>
          obtain ⟨r, k1, k2, k3, k4⟩ := w1
          show 1 ≤ wlen W (i :: p)
          rw [wlen_cons k1]
          have := (g.rs r (List.mem_of_getElem? k1)).l1
          have := isWay_pos g k4
          omega
      · show wlen W p ≤ _
        refine Int.le_trans (wlen_le hs hB p) ?_
        exact Int.mul_le_mul_of_nonneg_right (by omega) hB
      · obtain ⟨m1, _⟩ := minI_mem hn
        obtain ⟨i, _, e⟩ := List.mem_map.mp m1
        show n ≤ B
        rw [← e]
        exact h3 i
    · refine ih (by rw [sub_len, h1]) s2 (fun i => ?_) x hx
      rw [sub_getD n p fr i (gw_nodup g hp) fun i hi => (gw_lt g h1 hp i hi).1]
      have := h3 i
      split <;> omega
end L2.HW
namespace L2.HW
open PySem PySem.Spec PyProof.Rows
structure Ar where
  u : Int
  v : Int
  c : Int
  i : Nat
  cap : Int
deriving DecidableEq, Repr
def arcsOf (x : Int) (a : Rd × Nat) : List Ar := (if x < a.1.w then [⟨a.1.u, a.1.v, a.1.l, a.2, a.1.w - x⟩] else []) ++ (if 0 < x then [⟨a.1.v, a.1.u, -a.1.l, a.2, x⟩] else [])
def resid (W : Wb) (g : List Int) : List Ar := W.rs.zipIdx.flatMap fun a => arcsOf (g.getD a.2 0) a
def sumW (W : Wb) (h : Rd → Int → Int) (g : List Int) : Int := (List.zipWith h W.rs g).sum
theorem zip_set (h : Rd → Int → Int) : ∀ {rs : List Rd} {g : List Int} {i : Nat} {r : Rd} (x : Int), rs[i]? = some r → i < g.length → (List.zipWith h rs (g.set i x)).sum = (List.zipWith h rs g).sum - h r (g.getD i 0) + h r x
  | [], _, _, _, _, e, _ => by simp at e
  | _ :: _, [], _, _, _, _, l => by simp at l
  | q :: rs, y :: g, 0, r, x, e, _ => by
    have : q = r := by simpa using e
    subst this
    simp
    omega
  | q :: rs, y :: g, i + 1, r, x, e, l => by
    have ih := zip_set h (rs := rs) (g := g) (i := i) x (by simpa using e) (by simpa using l)
    have hg : (y :: g).getD (i + 1) 0 = g.getD i 0 := by simp
    rw [hg, List.set_cons_succ, List.zipWith_cons_cons, List.zipWith_cons_cons, List.sum_cons, List.sum_cons, ih]
    omega
theorem sumW_set {W : Wb} {h : Rd → Int → Int} {g : List Int} {i : Nat} {r : Rd} (x : Int) (e : W.rs[i]? = some r) (l : i < g.length) : sumW W h (g.set i x) = sumW W h g - h r (g.getD i 0) + h r x := zip_set h x e l
theorem mem_resid {W : Wb} {g : List Int} {a : Ar} : a ∈ resid W g ↔ ∃ r, W.rs[a.i]? = some r ∧ ((g.getD a.i 0 < r.w ∧ a = ⟨r.u, r.v, r.l, a.i, r.w - g.getD a.i 0⟩) ∨ (0 < g.getD a.i 0 ∧ a = ⟨r.v, r.u, -r.l, a.i, g.getD a.i 0⟩)) := by
  unfold resid
  rw [List.mem_flatMap]
  constructor
  · rintro ⟨⟨r, i⟩, h1, h2⟩
    have h1 := mem_zip h1
    unfold arcsOf at h2
    rcases List.mem_append.mp h2 with h2 | h2
    · split at h2
      · rename_i c
        have : a = ⟨r.u, r.v, r.l, i, r.w - g.getD i 0⟩ := by simpa using h2
        subst this
        exact ⟨r, h1, .inl ⟨c, rfl⟩⟩
      · cases h2
    · split at h2
      · rename_i c
        have : a = ⟨r.v, r.u, -r.l, i, g.getD i 0⟩ := by simpa using h2
        subst this
        exact ⟨r, h1, .inr ⟨c, rfl⟩⟩
      · cases h2
  · rintro ⟨r, h1, h2⟩
    refine ⟨(r, a.i), List.mem_zipIdx_iff_getElem?.mpr h1, ?_⟩
    unfold arcsOf
    rcases h2 with ⟨c, e⟩ | ⟨c, e⟩
    · refine List.mem_append_left _ ?_
      show a ∈ if g.getD a.i 0 < r.w then _ else _
      rw [if_pos c]
      exact List.mem_singleton.mpr e
    · refine List.mem_append_right _ ?_
      show a ∈ if 0 < g.getD a.i 0 then _ else _
      rw [if_pos c]
      exact List.mem_singleton.mpr e
def push1 (n : Int) (g : List Int) (a : Ar) : List Int := g.set a.i (g.getD a.i 0 + if 0 < a.c then n else -n)
def pushA (n : Int) (g : List Int) (p : List Ar) : List Int := p.foldl (push1 n) g
theorem push1_len (n : Int) (g : List Int) (a : Ar) : (push1 n g a).length = g.length := List.length_set
theorem pushA_len (n : Int) : ∀ (p : List Ar) (g : List Int), (pushA n g p).length = g.length
  | [], _ => rfl
  | a :: p, g => by
    show (pushA n (push1 n g a) p).length = _
    rw [pushA_len n p, push1_len]
def isArc (W : Wb) (a : Ar) : Prop := ∃ r, W.rs[a.i]? = some r ∧ ((0 < a.c ∧ a.u = r.u ∧ a.v = r.v ∧ a.c = r.l) ∨ (a.c < 0 ∧ a.u = r.v ∧ a.v = r.u ∧ a.c = -r.l))
theorem resid_arc {W : Wb} (g : W.Good) {x : List Int} {a : Ar} (h : a ∈ resid W x) : isArc W a := by
  obtain ⟨r, h1, h2⟩ := mem_resid.mp h
  have := (g.rs r (List.mem_of_getElem? h1)).l1
  refine ⟨r, h1, ?_⟩
  rcases h2 with ⟨_, e⟩ | ⟨_, e⟩
  · left
    rw [e]
    exact ⟨by show 0 < r.l; omega, rfl, rfl, rfl⟩
  · right
    rw [e]
    exact ⟨by show -r.l < 0; omega, rfl, rfl, rfl⟩
theorem push1_sum {W : Wb} {g : List Int} (hl : g.length = W.rs.length) {n : Int} {a : Ar} (ha : isArc W a) (k : Rd → Int) (K : Int) (hk : ∀ r, W.rs[a.i]? = some r → (if 0 < a.c then k r else -(k r)) = K) : sumW W (fun r x => x * k r) (push1 n g a) = sumW W (fun r x => x * k r) g + n * K := by
  obtain ⟨r, h1, h2⟩ := ha
  have hi : a.i < g.length := by rw [hl]; exact (List.getElem?_eq_some_iff.mp h1).1
  unfold push1
  rw [sumW_set _ h1 hi, ← hk r h1]
  split
  · rw [Int.add_mul]; omega
  · rw [Int.add_mul, Int.neg_mul, Int.mul_neg]; omega
theorem push1_flow {W : Wb} {g : List Int} (hl : g.length = W.rs.length) {n : Int} {a : Ar} (ha : isArc W a) (f : Int → Int) : sumW W (fun r x => x * (f r.v - f r.u)) (push1 n g a) = sumW W (fun r x => x * (f r.v - f r.u)) g + n * (f a.v - f a.u) := by
  refine push1_sum hl ha (fun r => f r.v - f r.u) _ fun r hr => ?_
  obtain ⟨r', h1, h2⟩ := ha
  rw [h1] at hr
  cases hr
  rcases h2 with ⟨c, e1, e2, _⟩ | ⟨c, e1, e2, _⟩
  · rw [if_pos c, e1, e2]
  · rw [if_neg (by omega), e1, e2]; omega
theorem push1_cost {W : Wb} {g : List Int} (hl : g.length = W.rs.length) {n : Int} {a : Ar} (ha : isArc W a) : sumW W (fun r x => x * r.l) (push1 n g a) = sumW W (fun r x => x * r.l) g + n * a.c := by
  refine push1_sum hl ha (fun r => r.l) _ fun r hr => ?_
  obtain ⟨r', h1, h2⟩ := ha
  rw [h1] at hr
  cases hr
  rcases h2 with ⟨c, _, _, e⟩ | ⟨c, _, _, e⟩
  · rw [if_pos c, e]
  · rw [if_neg (by omega), e]
def arB : BF Int Ar := ⟨Ar.u, Ar.v, fun x a => x + a.c, fun x y => decide (x ≤ y)⟩
theorem arB_ok : arB.Ok := ⟨fun x => by simp [arB], fun h k => by simp [arB] at *; omega, fun x y => by simp [arB]; omega, fun a h => by simp [arB] at *; omega⟩
def acost (p : List Ar) : Int := (p.map Ar.c).sum
theorem ev_cost : ∀ (p : List Ar) (z : Int), arB.ev z p = z + acost p
  | [], z => by simp [BF.ev, acost]
  | a :: p, z => by
    show arB.ev (z + a.c) p = _
    rw [ev_cost p]
    simp [acost]
    omega
theorem pushA_flow {W : Wb} (n : Int) (f : Int → Int) {A : List Ar} {e : Int} : ∀ {p : List Ar} {x : Int} {g : List Int}, g.length = W.rs.length → (∀ a ∈ p, isArc W a) → arB.pth A x p e → sumW W (fun r x => x * (f r.v - f r.u)) (pushA n g p) = sumW W (fun r x => x * (f r.v - f r.u)) g + n * (f e - f x)
  | [], x, g, _, _, h => by
    cases h
    simp [pushA]
  | a :: p, x, g, hl, hA, ⟨h1, h2, h3⟩ => by
    have h2 : a.u = x := h2
    show sumW W _ (pushA n (push1 n g a) p) = _
    rw [pushA_flow n f (by rw [push1_len, hl]) (fun b hb => hA b (List.mem_cons_of_mem _ hb)) h3, push1_flow hl (hA a List.mem_cons_self), h2]
    have : n * (f a.v - f x) + n * (f e - f a.v) = n * (f e - f x) := by rw [← Int.mul_add]; congr 1; omega
    show _ + n * (f e - f a.v) = _
    omega
theorem pushA_cost {W : Wb} (n : Int) : ∀ {p : List Ar} {g : List Int}, g.length = W.rs.length → (∀ a ∈ p, isArc W a) → sumW W (fun r x => x * r.l) (pushA n g p) = sumW W (fun r x => x * r.l) g + n * acost p
  | [], g, _, _ => by simp [pushA, acost]
  | a :: p, g, hl, hA => by
    show sumW W _ (pushA n (push1 n g a) p) = _
    rw [pushA_cost n (by rw [push1_len, hl]) (fun b hb => hA b (List.mem_cons_of_mem _ hb)), push1_cost hl (hA a List.mem_cons_self)]
    have : acost (a :: p) = a.c + acost p := by simp [acost]
    rw [this, Int.mul_add]
    omega
end L2.HW
namespace L2.HW
open PySem PySem.Spec PyProof.Rows
theorem pth_tail {A : List Ar} {e : Int} : ∀ {p : List Ar} {x : Int}, arB.pth A x p e → ∀ b ∈ p, b.u ∈ arB.plc x p ∧ b.v ∈ arB.plc x p
  | a :: p, x, ⟨h1, h2, h3⟩, b, hb => by
    have h2 : a.u = x := h2
    rcases List.mem_cons.mp hb with rfl | hb
    · exact ⟨by rw [h2]; exact List.mem_cons_self, List.mem_cons_of_mem _ (List.mem_map.mpr ⟨b, List.mem_cons_self, rfl⟩)⟩
    · obtain ⟨k1, k2⟩ := pth_tail h3 b hb
      have sub : ∀ z, z ∈ arB.plc (arB.hd a) p → z ∈ arB.plc x (a :: p) := fun z hz => by
        rcases List.mem_cons.mp hz with rfl | hz
        · exact List.mem_cons_of_mem _ (List.mem_map.mpr ⟨a, List.mem_cons_self, rfl⟩)
        · obtain ⟨c, hc, rfl⟩ := List.mem_map.mp hz
          exact List.mem_cons_of_mem _ (List.mem_map.mpr ⟨c, List.mem_cons_of_mem _ hc, rfl⟩)
      exact ⟨sub _ k1, sub _ k2⟩
theorem arcs_nodup {W : Wb} {A : List Ar} {e : Int} : ∀ {p : List Ar} {x : Int}, arB.pth A x p e → (∀ a ∈ p, isArc W a) → (arB.plc x p).Nodup → (p.map Ar.i).Nodup
  | [], _, _, _, _ => .nil
  | a :: p, x, ⟨h1, h2, h3⟩, hA, hn => by
    have h2 : a.u = x := h2
    obtain ⟨n1, n2⟩ := List.nodup_cons.mp hn
    have n1 : x ∉ arB.plc (arB.hd a) p := n1
    refine List.nodup_cons.mpr ⟨fun hi => ?_, arcs_nodup h3 (fun b hb => hA b (List.mem_cons_of_mem _ hb)) n2⟩
    obtain ⟨b, hb, hbi⟩ := List.mem_map.mp hi
    obtain ⟨r, k1, k2⟩ := hA a List.mem_cons_self
    obtain ⟨r', k3, k4⟩ := hA b (List.mem_cons_of_mem _ hb)
    rw [hbi, k1] at k3
    cases k3
    obtain ⟨t1, t2⟩ := pth_tail h3 b hb
    refine n1 ?_
    rw [← h2]
    rcases k2 with ⟨_, e1, e2, _⟩ | ⟨_, e1, e2, _⟩ <;> rcases k4 with ⟨_, e3, e4, _⟩ | ⟨_, e3, e4, _⟩
    · rw [e1, ← e3]; exact t1
    · rw [e1, ← e4]; exact t2
    · rw [e1, ← e4]; exact t2
    · rw [e1, ← e3]; exact t1
theorem pushA_out (n : Int) : ∀ {p : List Ar} {g : List Int} {i : Nat}, i ∉ p.map Ar.i → (pushA n g p).getD i 0 = g.getD i 0
  | [], _, _, _ => rfl
  | a :: p, g, i, h => by
    show (pushA n (push1 n g a) p).getD i 0 = _
    have h1 : i ≠ a.i := fun z => h (by rw [z]; exact List.mem_cons_self)
    rw [pushA_out n fun z => h (List.mem_cons_of_mem _ z)]
    unfold push1
    rw [List.getD_eq_getElem?_getD, List.getElem?_set, if_neg (fun z => h1 z.symm), ← List.getD_eq_getElem?_getD]
theorem pushA_in (n : Int) : ∀ {p : List Ar} {g : List Int} {a : Ar}, (p.map Ar.i).Nodup → (∀ b ∈ p, b.i < g.length) → a ∈ p → (pushA n g p).getD a.i 0 = g.getD a.i 0 + if 0 < a.c then n else -n
  | b :: p, g, a, hn, hl, ha => by
    obtain ⟨n1, n2⟩ := List.nodup_cons.mp hn
    show (pushA n (push1 n g b) p).getD a.i 0 = _
    rcases List.mem_cons.mp ha with rfl | ha
    · rw [pushA_out n n1]
      unfold push1
      rw [List.getD_eq_getElem?_getD, List.getElem?_set_self (hl a List.mem_cons_self)]
      rfl
    · rw [pushA_in n n2 (fun c hc => by rw [push1_len]; exact hl c (List.mem_cons_of_mem _ hc)) ha]
      have : b.i ≠ a.i := fun z => n1 (List.mem_map.mpr ⟨a, ha, z.symm⟩)
      unfold push1
      rw [List.getD_eq_getElem?_getD, List.getElem?_set, if_neg this, ← List.getD_eq_getElem?_getD]
def Pot (W : Wb) (g : List Int) (f : Int → Int) : Prop := ∀ i r, W.rs[i]? = some r → (g.getD i 0 < r.w → f r.v ≤ f r.u + r.l) ∧ (0 < g.getD i 0 → f r.u ≤ f r.v - r.l)
theorem Pot.arc {W : Wb} {g : List Int} {f : Int → Int} (h : Pot W g f) {a : Ar} (ha : a ∈ resid W g) : f a.v ≤ f a.u + a.c := by
  obtain ⟨r, h1, h2⟩ := mem_resid.mp ha
  obtain ⟨k1, k2⟩ := h a.i r h1
  rcases h2 with ⟨c, e⟩ | ⟨c, e⟩
  · rw [e]; exact k1 c
  · rw [e]
    have := k2 c
    show f r.u ≤ f r.v + -r.l
    omega
theorem pot_of {W : Wb} {g : List Int} {f : Int → Int} (h : ∀ a ∈ resid W g, f a.v ≤ f a.u + a.c) : Pot W g f := fun i r hr => by
  refine ⟨fun c => ?_, fun c => ?_⟩
  · exact h ⟨r.u, r.v, r.l, i, r.w - g.getD i 0⟩ (mem_resid.mpr ⟨r, hr, .inl ⟨c, rfl⟩⟩)
  · have := h ⟨r.v, r.u, -r.l, i, g.getD i 0⟩ (mem_resid.mpr ⟨r, hr, .inr ⟨c, rfl⟩⟩)
    have : f r.u ≤ f r.v + -r.l := this
    omega
def Wth (W : Wb) (g : List Int) : Prop := g.length = W.rs.length ∧ ∀ i r, W.rs[i]? = some r → 0 ≤ g.getD i 0 ∧ g.getD i 0 ≤ r.w
theorem push_ok {W : Wb} (gd : W.Good) {g : List Int} (hg : Wth W g) {p : List Ar} (hp : ∀ a ∈ p, a ∈ resid W g) (hn : (p.map Ar.i).Nodup) {n : Int} (n0 : 0 ≤ n) (hc : ∀ a ∈ p, n ≤ a.cap) :
    Wth W (pushA n g p) ∧ ∀ f : Int → Int, Pot W g f → (∀ a ∈ p, f a.v = f a.u + a.c) → Pot W (pushA n g p) f := by
  have hi : ∀ b ∈ p, b.i < g.length := fun b hb => by
    obtain ⟨r, h1, _⟩ := mem_resid.mp (hp b hb)
    rw [hg.1]; exact (List.getElem?_eq_some_iff.mp h1).1
  refine ⟨⟨by rw [pushA_len, hg.1], fun i r hr => ?_⟩, fun f hf ht i r hr => ?_⟩
  · obtain ⟨b0, b1⟩ := hg.2 i r hr
    by_cases h : i ∈ p.map Ar.i
    · obtain ⟨a, ha, rfl⟩ := List.mem_map.mp h
      rw [pushA_in n hn hi ha]
      have hca := hc a ha
      obtain ⟨r', h1, h2⟩ := mem_resid.mp (hp a ha)
      rw [hr] at h1
      cases h1
      have l1 := (gd.rs r (List.mem_of_getElem? hr)).l1
      rcases h2 with ⟨c, e⟩ | ⟨c, e⟩
      · have e1 : a.c = r.l := by rw [e]
        have e2 : a.cap = r.w - g.getD a.i 0 := by conv => lhs; rw [e]
        rw [if_pos (by omega)]; omega
      · have e1 : a.c = -r.l := by rw [e]
        have e2 : a.cap = g.getD a.i 0 := by conv => lhs; rw [e]
        rw [if_neg (by omega)]; omega
    · rw [pushA_out n h]; exact ⟨b0, b1⟩
  · obtain ⟨k1, k2⟩ := hf i r hr
    by_cases h : i ∈ p.map Ar.i
    · obtain ⟨a, ha, rfl⟩ := List.mem_map.mp h
      have hta := ht a ha
      obtain ⟨r', h1, h2⟩ := mem_resid.mp (hp a ha)
      rw [hr] at h1
      cases h1
      rcases h2 with ⟨c, e⟩ | ⟨c, e⟩
      · rw [e] at hta
        have hta : f r.v = f r.u + r.l := hta
        exact ⟨fun _ => by omega, fun _ => by omega⟩
      · rw [e] at hta
        have hta : f r.u = f r.v + -r.l := hta
        exact ⟨fun _ => by omega, fun _ => by omega⟩
    · rw [pushA_out n h]; exact ⟨k1, k2⟩
end L2.HW
namespace L2.HW
open PySem PySem.Spec PyProof.Rows
theorem pot_walk {W : Wb} {g : List Int} {f : Int → Int} (h : Pot W g f) {y : Int} : ∀ {p : List Ar} {x : Int}, arB.pth (resid W g) x p y → f y ≤ f x + acost p
  | [], x, k => by cases k; simp [acost]
  | a :: p, x, ⟨h1, h2, h3⟩ => by
    have h2 : a.u = x := h2
    have k1 := h.arc h1
    have k2 := pot_walk h h3
    have k2 : f y ≤ f a.v + acost p := k2
    have : acost (a :: p) = a.c + acost p := by simp [acost]
    rw [← h2]
    omega
theorem cyc_of {W : Wb} {g : List Int} {f : Int → Int} (h : Pot W g f) : arB.Cyc (resid W g) := fun q p z k => by
  have := pot_walk h k
  rw [ev_cost]
  exact decide_eq_true (by omega)
theorem bound_ex {α : Type} (φ : α → Int) : ∀ A : List α, ∃ C : Int, 0 ≤ C ∧ ∀ a ∈ A, φ a ≤ C
  | [] => ⟨0, Int.le_refl _, fun _ h => (nomatch h)⟩
  | a :: A => by
    obtain ⟨C, h0, h⟩ := bound_ex φ A
    refine ⟨max C (φ a), by omega, fun b hb => ?_⟩
    rcases List.mem_cons.mp hb with rfl | hb
    · omega
    · have := h b hb
      omega
theorem resid_place {W : Wb} (gd : W.Good) {g : List Int} {a : Ar} (h : a ∈ resid W g) : (0 ≤ a.u ∧ a.u < W.m) ∧ 0 ≤ a.v ∧ a.v < W.m := by
  obtain ⟨r, h1, h2⟩ := resid_arc gd h
  have q := gd.rs r (List.mem_of_getElem? h1)
  have := q.u0; have := q.u1; have := q.v0; have := q.v1
  rcases h2 with ⟨_, e1, e2, _⟩ | ⟨_, e1, e2, _⟩ <;> rw [e1, e2] <;> omega
def dstA (W : Wb) (g : List Int) (ks : List (Int × Int)) : List (Int × Int) := arB.run (resid W g) W.m.toNat ks
def potD (d : List (Int × Int)) (f : Int → Int) (C : Int) (x : Int) : Int := match alook d x with
  | some y => y
  | none => f x + C
theorem pot_dst {W : Wb} (gd : W.Good) {g : List Int} {f : Int → Int} (h : Pot W g f) {ks : List (Int × Int)} (hk : ∀ k y, alook ks k = some y → 0 ≤ k ∧ k < W.m) :
    ∃ C : Int, 0 ≤ C ∧ ∀ C', C ≤ C' → Pot W g (potD (dstA W g ks) f C') := by
  have hm := gd.m2
  obtain ⟨C, c0, hC⟩ := bound_ex (fun a : Ar => (match alook (dstA W g ks) a.v with
    | some y => y
    | none => 0) - f a.u - a.c) (resid W g)
  refine ⟨C, c0, fun C' hC' => pot_of fun a ha => ?_⟩
  have k1 := hC a ha
  have k2 := h.arc ha
  unfold potD
  cases hu : alook (dstA W g ks) a.u with
  | some x =>
    obtain ⟨y, e, l⟩ := BF.run_fix (m := W.m.toNat) arB_ok (cyc_of h) (fun c hc => by have := (resid_place gd hc).2; exact ⟨this.1, by show c.v < _; omega⟩) (fun k y e => by have := hk k y e; omega) (Nat.le_refl _) ha hu
    have e : alook (dstA W g ks) a.v = some y := e
    rw [e]
    exact of_decide_eq_true l
  | none =>
    cases hv : alook (dstA W g ks) a.v with
    | some y =>
      rw [hv] at k1
      simp only at k1 ⊢
      omega
    | none =>
      simp only
      omega
end L2.HW
namespace L2.HW
open PySem PySem.Spec PyProof.Rows
structure Step (W : Wb) (g : List Int) (p : List Ar) (n len : Int) : Prop where
  wk : arB.pth (resid W g) W.b p W.e
  nd : (arB.plc W.b p).Nodup
  ln : acost p = len
  lo : ∀ q, arB.pth (resid W g) W.b q W.e → len ≤ acost q
  n0 : 0 < n
  cap : ∀ a ∈ p, n ≤ a.cap
structure St (W : Wb) (g : List Int) (val last : Int) (f : Int → Int) : Prop where
  wd : Wth W g
  fl : ∀ h : Int → Int, sumW W (fun r x => x * (h r.v - h r.u)) g = val * (h W.e - h W.b)
  pt : Pot W g f
  fb : f W.b = 0
  fe : f W.e = last
  nn : ∀ x, 0 ≤ f x
theorem look_one' (e k y : Int) : alook [(e, (0 : Int))] k = some y ↔ k = e ∧ y = 0 := look_one e k y
theorem tight_all {W : Wb} {g : List Int} {f : Int → Int} (h : Pot W g f) {y : Int} : ∀ {p : List Ar} {x : Int}, arB.pth (resid W g) x p y → f y = f x + acost p → ∀ a ∈ p, f a.v = f a.u + a.c
  | b :: p, x, ⟨h1, h2, h3⟩, e, a, ha => by
    have h2 : b.u = x := h2
    have k1 := h.arc h1
    have k2 := pot_walk h h3
    have k2 : f y ≤ f b.v + acost p := k2
    have e2 : acost (b :: p) = b.c + acost p := by simp [acost]
    rw [e2, ← h2] at e
    rcases List.mem_cons.mp ha with rfl | ha
    · omega
    · exact tight_all h h3 (by show f y = f b.v + acost p; omega) a ha
theorem step_ok {W : Wb} (gd : W.Good) {g : List Int} {val last n len : Int} {f : Int → Int} {p : List Ar} (s : St W g val last f) (t : Step W g p n len) : last ≤ len ∧ ∃ f', St W (pushA n g p) (val + n) len f' := by
  have hm := gd.m2
  have hks : ∀ k y, alook [(W.b, (0 : Int))] k = some y → 0 ≤ k ∧ k < W.m := fun k y e => by
    obtain ⟨rfl, _⟩ := (look_one' _ _ _).mp e
    exact ⟨gd.b0, gd.b1⟩
  have hA : ∀ c ∈ resid W g, 0 ≤ arB.hd c ∧ arB.hd c < (W.m.toNat : Int) := fun c hc => by have := (resid_place gd hc).2; exact ⟨this.1, by show c.v < _; omega⟩
  have hk' : ∀ k y, alook [(W.b, (0 : Int))] k = some y → 0 ≤ k ∧ k < (W.m.toNat : Int) := fun k y e => by have := hks k y e; omega
  have h0 : alook [(W.b, (0 : Int))] W.b = some 0 := (look_one' _ _ _).mpr ⟨rfl, rfl⟩
  have far : ∀ {x : Int} {q : List Ar}, arB.pth (resid W g) W.b q x → ∃ y, alook (dstA W g [(W.b, 0)]) x = some y ∧ y ≤ acost q := fun {x q} k => by
    obtain ⟨y, e, l⟩ := BF.run_all arB_ok (cyc_of s.pt) hA hk' (Nat.le_refl _) h0 k
    rw [ev_cost] at l
    exact ⟨y, e, by have := of_decide_eq_true l; omega⟩
  have near : ∀ {x y : Int}, alook (dstA W g [(W.b, 0)]) x = some y → ∃ q, arB.pth (resid W g) W.b q x ∧ acost q = y := fun {x y} e => by
    obtain ⟨a, z, q, k1, k2, rfl⟩ := BF.run_sound e
    obtain ⟨rfl, rfl⟩ := (look_one' _ _ _).mp k1
    exact ⟨q, k2, by rw [ev_cost]; omega⟩
  obtain ⟨C, c0, hC⟩ := pot_dst gd s.pt hks
  have pt := hC C (Int.le_refl _)
  have db : alook (dstA W g [(W.b, 0)]) W.b = some 0 := by
    obtain ⟨y, e, l⟩ := far (x := W.b) (q := []) rfl
    obtain ⟨q, k1, k2⟩ := near e
    have := pot_walk s.pt k1
    have : acost ([] : List Ar) = 0 := rfl
    rw [e]
    congr 1
    omega
  have de : alook (dstA W g [(W.b, 0)]) W.e = some len := by
    obtain ⟨y, e, l⟩ := far t.wk
    obtain ⟨q, k1, k2⟩ := near e
    have := t.lo q k1
    have := t.ln
    rw [e]
    congr 1
    omega
  have fb : potD (dstA W g [(W.b, 0)]) f C W.b = 0 := by unfold potD; rw [db]
  have fe : potD (dstA W g [(W.b, 0)]) f C W.e = len := by unfold potD; rw [de]
  have tight := tight_all pt t.wk (by rw [fb, fe, t.ln]; omega)
  have hiA : ∀ a ∈ p, isArc W a := fun a ha => resid_arc gd (BF.pth_mem t.wk a ha)
  obtain ⟨w1, w2⟩ := push_ok gd s.wd (BF.pth_mem t.wk) (arcs_nodup t.wk hiA t.nd) (Int.le_of_lt t.n0) t.cap
  refine ⟨?_, potD (dstA W g [(W.b, 0)]) f C, w1, fun h => ?_, w2 _ pt tight, fb, fe, fun x => ?_⟩
  · have := pot_walk s.pt t.wk
    rw [s.fb, s.fe, t.ln] at this
    omega
  · rw [pushA_flow n h s.wd.1 hiA t.wk, s.fl h, Int.add_mul]
  · have nx := s.nn x
    unfold potD
    cases e : alook (dstA W g [(W.b, 0)]) x with
    | none => show 0 ≤ f x + C; omega
    | some y =>
      obtain ⟨q, k1, k2⟩ := near e
      have := pot_walk s.pt k1
      have := s.fb
      show 0 ≤ y
      omega
end L2.HW
namespace L2.HW
open PySem PySem.Spec PyProof.Rows
def worthW (W : Wb) (c : Int → Int) : Int := (W.rs.map fun r => r.w * max 0 (c r.v - c r.u - r.l)).sum
def costW (W : Wb) (g : List Int) : Int := sumW W (fun r x => x * r.l) g
theorem zip_le {h : Rd → Int → Int} {k : Rd → Int} : ∀ {rs : List Rd} {g : List Int}, g.length = rs.length → (∀ i r, rs[i]? = some r → h r (g.getD i 0) ≤ k r) → (List.zipWith h rs g).sum ≤ (rs.map k).sum
  | [], [], _, _ => Int.le_refl _
  | r :: rs, x :: g, hl, hh => by
    have h0 := hh 0 r rfl
    have ih := zip_le (rs := rs) (g := g) (by simpa using hl) fun i q hq => by
      have := hh (i + 1) q (by simpa using hq)
      simpa using this
    have h0 : h r x ≤ k r := by simpa using h0
    simp
    omega
  | [], _ :: _, hl, _ => by simp at hl
  | _ :: _, [], hl, _ => by simp at hl
theorem zip_eq {h : Rd → Int → Int} {k : Rd → Int} : ∀ {rs : List Rd} {g : List Int}, g.length = rs.length → (∀ i r, rs[i]? = some r → h r (g.getD i 0) = k r) → (List.zipWith h rs g).sum = (rs.map k).sum
  | [], [], _, _ => rfl
  | r :: rs, x :: g, hl, hh => by
    have h0 := hh 0 r rfl
    have ih := zip_eq (rs := rs) (g := g) (by simpa using hl) fun i q hq => by
      have := hh (i + 1) q (by simpa using hq)
      simpa using this
    have h0 : h r x = k r := by simpa using h0
    simp
    omega
  | [], _ :: _, hl, _ => by simp at hl
  | _ :: _, [], hl, _ => by simp at hl
theorem zip_sub (h k : Rd → Int → Int) : ∀ (rs : List Rd) (g : List Int), (List.zipWith h rs g).sum - (List.zipWith k rs g).sum = (List.zipWith (fun r x => h r x - k r x) rs g).sum
  | [], _ => by simp
  | _ :: _, [] => by simp
  | r :: rs, x :: g => by
    have := zip_sub h k rs g
    simp
    omega
theorem flow_cut {W : Wb} {g : List Int} {val last : Int} {f : Int → Int} (s : St W g val last f) (c : Int → Int) : val * (c W.e - c W.b) - costW W g = sumW W (fun r x => x * (c r.v - c r.u - r.l)) g := by
  rw [← s.fl c]
  unfold costW sumW
  rw [zip_sub]
  congr 2
  funext r x
  rw [← Int.mul_sub]
theorem weak_dual {W : Wb} {g : List Int} {val last : Int} {f : Int → Int} (s : St W g val last f) (c : Int → Int) : val * (c W.e - c W.b) - costW W g ≤ worthW W c := by
  rw [flow_cut s c]
  refine zip_le s.wd.1 fun i r hr => ?_
  obtain ⟨h0, h1⟩ := s.wd.2 i r hr
  refine Int.le_trans (Int.mul_le_mul_of_nonneg_left (show c r.v - c r.u - r.l ≤ max 0 (c r.v - c r.u - r.l) by omega) h0) (Int.mul_le_mul_of_nonneg_right h1 (by omega))
theorem dual_eq {W : Wb} {g : List Int} {val last : Int} {f : Int → Int} (s : St W g val last f) (c : Int → Int) (h : ∀ i r, W.rs[i]? = some r → (g.getD i 0 < r.w → c r.v ≤ c r.u + r.l) ∧ (0 < g.getD i 0 → c r.u ≤ c r.v - r.l)) : val * (c W.e - c W.b) - costW W g = worthW W c := by
  rw [flow_cut s c]
  refine zip_eq s.wd.1 fun i r hr => ?_
  obtain ⟨h0, h1⟩ := s.wd.2 i r hr
  obtain ⟨k1, k2⟩ := h i r hr
  by_cases e1 : g.getD i 0 < r.w
  · have := k1 e1
    have hm : max 0 (c r.v - c r.u - r.l) = 0 := by omega
    rw [hm, Int.mul_zero]
    by_cases e2 : 0 < g.getD i 0
    · have := k2 e2
      have : c r.v - c r.u - r.l = 0 := by omega
      rw [this, Int.mul_zero]
    · have : g.getD i 0 = 0 := by omega
      rw [this, Int.zero_mul]
  · have e3 : g.getD i 0 = r.w := by omega
    rw [e3]
    by_cases e2 : 0 < g.getD i 0
    · have := k2 e2
      have : max 0 (c r.v - c r.u - r.l) = c r.v - c r.u - r.l := by omega
      rw [this]
    · have : r.w = 0 := by omega
      rw [this, Int.zero_mul, Int.zero_mul]
end L2.HW
namespace L2.HW
open PySem PySem.Spec PyProof.Rows
theorem zip_nonneg {h : Rd → Int → Int} : ∀ {rs : List Rd} {g : List Int}, g.length = rs.length → (∀ i r, rs[i]? = some r → 0 ≤ h r (g.getD i 0)) → 0 ≤ (List.zipWith h rs g).sum
  | [], [], _, _ => Int.le_refl _
  | r :: rs, x :: g, hl, hh => by
    have h0 : 0 ≤ h r x := by simpa using hh 0 r rfl
    have ih := zip_nonneg (h := h) (rs := rs) (g := g) (by simpa using hl) fun i q hq => by
      have := hh (i + 1) q (by simpa using hq)
      simpa using this
    simp
    omega
  | [], _ :: _, hl, _ => by simp at hl
  | _ :: _, [], hl, _ => by simp at hl
theorem zip_zero {h : Rd → Int → Int} : ∀ {rs : List Rd} {g : List Int}, g.length = rs.length → (∀ i r, rs[i]? = some r → 0 ≤ h r (g.getD i 0)) → (List.zipWith h rs g).sum = 0 → ∀ i r, rs[i]? = some r → h r (g.getD i 0) = 0
  | [], [], _, _, _ => fun i r e => by simp at e
  | r :: rs, x :: g, hl, hh, hz => by
    have h0 : 0 ≤ h r x := by simpa using hh 0 r rfl
    have hh' : ∀ i q, rs[i]? = some q → 0 ≤ h q (g.getD i 0) := fun i q hq => by
      have := hh (i + 1) q (by simpa using hq)
      simpa using this
    have hn := zip_nonneg (h := h) (rs := rs) (g := g) (by simpa using hl) hh'
    rw [List.zipWith_cons_cons, List.sum_cons] at hz
    have ih := zip_zero (h := h) (rs := rs) (g := g) (by simpa using hl) hh' (by omega)
    intro i q hq
    cases i with
    | zero =>
      have : r = q := by simpa using hq
      subst this
      have : h r x = 0 := by omega
      simpa using this
    | succ i =>
      have := ih i q (by simpa using hq)
      simpa using this
  | [], _ :: _, hl, _, _ => by simp at hl
  | _ :: _, [], hl, _, _ => by simp at hl
theorem clip_ok {W : Wb} (gd : W.Good) {g : List Int} {val last T : Int} {f σ : Int → Int} (s : St W g val last f) (p : Pot W g σ) (hb : σ W.b = 0) (he : σ W.e = T) (hT : 0 ≤ T) :
    ∀ i r, W.rs[i]? = some r → (g.getD i 0 < r.w → min T (σ r.v) ≤ min T (σ r.u) + r.l) ∧ (0 < g.getD i 0 → min T (σ r.u) ≤ min T (σ r.v) - r.l) := by
  have hz := s.fl (fun x => max 0 (σ x - T))
  have e1 : max 0 (σ W.e - T) = 0 := by omega
  have e2 : max 0 (σ W.b - T) = 0 := by omega
  simp only [e1, e2] at hz
  have hz : sumW W (fun r x => x * (max 0 (σ r.v - T) - max 0 (σ r.u - T))) g = 0 := by rw [hz]; simp
  have nn : ∀ i r, W.rs[i]? = some r → 0 ≤ g.getD i 0 * (max 0 (σ r.v - T) - max 0 (σ r.u - T)) := fun i r hr => by
    obtain ⟨h0, _⟩ := s.wd.2 i r hr
    have l1 := (gd.rs r (List.mem_of_getElem? hr)).l1
    by_cases e : 0 < g.getD i 0
    · have := (p i r hr).2 e
      exact Int.mul_nonneg h0 (by omega)
    · have : g.getD i 0 = 0 := by omega
      rw [this, Int.zero_mul]
      exact Int.le_refl _
  have zero := zip_zero s.wd.1 nn hz
  intro i r hr
  have l1 := (gd.rs r (List.mem_of_getElem? hr)).l1
  obtain ⟨p1, p2⟩ := p i r hr
  refine ⟨fun c => by have := p1 c; omega, fun c => ?_⟩
  have h1 := p2 c
  have h2 := zero i r hr
  rcases Int.mul_eq_zero.mp h2 with h2 | h2
  · omega
  · omega
theorem clip_worth {W : Wb} (gd : W.Good) {g : List Int} {val last T : Int} {f σ : Int → Int} (s : St W g val last f) (p : Pot W g σ) (hb : σ W.b = 0) (he : σ W.e = T) (hT : 0 ≤ T) : val * T - costW W g = worthW W fun x => min T (σ x) := by
  have := dual_eq s (fun x => min T (σ x)) (clip_ok gd s p hb he hT)
  rw [← this, hb, he]
  have e1 : min T T = T := by omega
  have e2 : min T 0 = 0 := by omega
  rw [e1, e2, Int.sub_zero]
end L2.HW
namespace L2.HW
open PySem PySem.Spec PyProof.Rows
theorem look_two {b e T k y : Int} (hbe : b ≠ e) : alook [(b, (0 : Int)), (e, T)] k = some y ↔ (k = b ∧ y = 0) ∨ (k = e ∧ y = T) := by
  rw [look_cons, look_cons]
  by_cases h : b = k
  · subst h
    rw [if_pos rfl]
    constructor
    · intro h; cases h; exact .inl ⟨rfl, rfl⟩
    · rintro (⟨_, rfl⟩ | ⟨h, _⟩)
      · rfl
      · exact absurd h hbe
  · rw [if_neg h]
    by_cases h2 : e = k
    · subst h2
      rw [if_pos rfl]
      constructor
      · intro h; cases h; exact .inr ⟨rfl, rfl⟩
      · rintro (⟨h3, _⟩ | ⟨_, rfl⟩)
        · exact absurd h3.symm h
        · rfl
    · rw [if_neg h2]
      constructor
      · intro h; simp [alook] at h
      · rintro (⟨h3, _⟩ | ⟨h3, _⟩)
        · exact absurd h3.symm h
        · exact absurd h3.symm h2
theorem two_dst {W : Wb} (gd : W.Good) {g : List Int} {val last T : Int} {f : Int → Int} (s : St W g val last f) (hl : last ≤ T) (lo : ∀ q, arB.pth (resid W g) W.b q W.e → T ≤ acost q) :
    alook (dstA W g [(W.b, 0), (W.e, T)]) W.b = some 0 ∧ alook (dstA W g [(W.b, 0), (W.e, T)]) W.e = some T ∧ ∃ C : Int, ∀ C', C ≤ C' → Pot W g (potD (dstA W g [(W.b, 0), (W.e, T)]) f C') := by
  have hm := gd.m2
  have hks : ∀ k y, alook [(W.b, (0 : Int)), (W.e, T)] k = some y → 0 ≤ k ∧ k < W.m := fun k y e => by
    rcases (look_two gd.be).mp e with ⟨rfl, _⟩ | ⟨rfl, _⟩
    · exact ⟨gd.b0, gd.b1⟩
    · exact ⟨gd.e0, gd.e1⟩
  have hA : ∀ c ∈ resid W g, 0 ≤ arB.hd c ∧ arB.hd c < (W.m.toNat : Int) := fun c hc => by have := (resid_place gd hc).2; exact ⟨this.1, by show c.v < _; omega⟩
  have hk' : ∀ k y, alook [(W.b, (0 : Int)), (W.e, T)] k = some y → 0 ≤ k ∧ k < (W.m.toNat : Int) := fun k y e => by have := hks k y e; omega
  have far : ∀ {x z : Int}, alook [(W.b, (0 : Int)), (W.e, T)] x = some z → ∃ y, alook (dstA W g [(W.b, 0), (W.e, T)]) x = some y ∧ y ≤ z := fun {x z} k => by
    obtain ⟨y, e, l⟩ := BF.run_all (p := []) arB_ok (cyc_of s.pt) hA hk' (Nat.le_refl _) k rfl
    exact ⟨y, e, of_decide_eq_true l⟩
  have near : ∀ {x y : Int}, alook (dstA W g [(W.b, 0), (W.e, T)]) x = some y → ∃ q, (arB.pth (resid W g) W.b q x ∧ acost q = y) ∨ (arB.pth (resid W g) W.e q x ∧ T + acost q = y) := fun {x y} e => by
    obtain ⟨a, z, q, k1, k2, rfl⟩ := BF.run_sound e
    rw [ev_cost]
    rcases (look_two gd.be).mp k1 with ⟨rfl, rfl⟩ | ⟨rfl, rfl⟩
    · exact ⟨q, .inl ⟨k2, by omega⟩⟩
    · exact ⟨q, .inr ⟨k2, rfl⟩⟩
  refine ⟨?_, ?_, ?_⟩
  · obtain ⟨y, e, l⟩ := far ((look_two gd.be).mpr (.inl ⟨rfl, rfl⟩))
    obtain ⟨q, ⟨k1, k2⟩ | ⟨k1, k2⟩⟩ := near e
    · have := pot_walk s.pt k1
      rw [e]; congr 1; omega
    · have := pot_walk s.pt k1
      rw [s.fb, s.fe] at this
      rw [e]; congr 1; omega
  · obtain ⟨y, e, l⟩ := far ((look_two gd.be).mpr (.inr ⟨rfl, rfl⟩))
    obtain ⟨q, ⟨k1, k2⟩ | ⟨k1, k2⟩⟩ := near e
    · have := lo q k1
      rw [e]; congr 1; omega
    · have := pot_walk s.pt k1
      rw [e]; congr 1; omega
  · obtain ⟨C, _, h⟩ := pot_dst gd s.pt hks
    exact ⟨C, h⟩
end L2.HW
namespace L2.HW
open PySem PySem.Spec PyProof.Rows
inductive Run (W : Wb) : List Int → List Row → List Int → Prop
  | nil {g : List Int} : Run W g [] g
  | cons {g g' : List Int} {p : List Ar} {n len : Int} {rows : List Row} : Step W g p n len → Run W (pushA n g p) rows g' → Run W g ((len, n) :: rows) g'
theorem run_lens {W : Wb} (gd : W.Good) {g g' : List Int} {rows : List Row} (h : Run W g rows g') : ∀ {val last : Int} {f : Int → Int}, St W g val last f → ∀ r ∈ rows, last ≤ r.1 ∧ 0 < r.2 := by
  induction h with
  | nil => intro _ _ _ _ r hr; cases hr
  | cons t _ ih =>
    intro val last f s r hr
    obtain ⟨h1, f', s'⟩ := step_ok gd s t
    rcases List.mem_cons.mp hr with rfl | hr
    · exact ⟨h1, t.n0⟩
    · have := ih s' r hr
      exact ⟨by omega, this.2⟩
theorem bro_far {rows : List Row} {t : Int} (h : ∀ r ∈ rows, t + 1 ≤ r.1) : bro rows t = 0 := by
  unfold bro
  induction rows with
  | nil => rfl
  | cons r rows ih =>
    have := h r List.mem_cons_self
    rw [List.map_cons, List.sum_cons, ih fun x hx => h x (List.mem_cons_of_mem _ hx)]
    have : max 0 (t + 1 - r.1) = 0 := by omega
    rw [this]; simp
theorem run_dual {W : Wb} (gd : W.Good) {g g' : List Int} {rows : List Row} (h : Run W g rows g') (stop : ∀ q, ¬ arB.pth (resid W g') W.b q W.e) : ∀ {val last t : Int} {f : Int → Int}, St W g val last f → last ≤ t + 1 → 0 ≤ t + 1 →
    ∃ c : Int → Int, c W.b = 0 ∧ c W.e = t + 1 ∧ worthW W c = val * (t + 1) - costW W g + bro rows t := by
  have clip : ∀ {g : List Int} {val last t : Int} {f : Int → Int}, St W g val last f → last ≤ t + 1 → 0 ≤ t + 1 → (∀ q, arB.pth (resid W g) W.b q W.e → t + 1 ≤ acost q) → ∃ c : Int → Int, c W.b = 0 ∧ c W.e = t + 1 ∧ worthW W c = val * (t + 1) - costW W g := by
    intro g val last t f s hl ht lo
    obtain ⟨h1, h2, C, hC⟩ := two_dst gd s hl lo
    have hb : potD (dstA W g [(W.b, 0), (W.e, t + 1)]) f C W.b = 0 := by unfold potD; rw [h1]
    have he : potD (dstA W g [(W.b, 0), (W.e, t + 1)]) f C W.e = t + 1 := by unfold potD; rw [h2]
    refine ⟨fun x => min (t + 1) (potD (dstA W g [(W.b, 0), (W.e, t + 1)]) f C x), ?_, ?_, ?_⟩
    · show min (t + 1) _ = 0
      rw [hb]; omega
    · show min (t + 1) _ = t + 1
      rw [he]; omega
    · exact (clip_worth gd s (hC C (Int.le_refl _)) hb he ht).symm
  induction h with
  | nil =>
    intro val last t f s hl ht
    obtain ⟨c, h1, h2, h3⟩ := clip s hl ht fun q hq => absurd hq (stop q)
    exact ⟨c, h1, h2, by rw [h3]; simp [bro]⟩
  | @cons g g' p n len rows st run ih =>
    intro val last t f s hl ht
    obtain ⟨k1, f', s'⟩ := step_ok gd s st
    by_cases e : len ≤ t + 1
    · obtain ⟨c, h1, h2, h3⟩ := ih stop s' e ht
      refine ⟨c, h1, h2, ?_⟩
      have hiA : ∀ a ∈ p, isArc W a := fun a ha => resid_arc gd (BF.pth_mem st.wk a ha)
      have hc : costW W (pushA n g p) = costW W g + n * len := by
        unfold costW
        rw [pushA_cost n s.wd.1 hiA, st.ln]
      have hb : bro ((len, n) :: rows) t = n * (t + 1 - len) + bro rows t := by
        unfold bro
        rw [List.map_cons, List.sum_cons]
        have : max 0 (t + 1 - len) = t + 1 - len := by omega
        rw [this]
      rw [h3, hc, hb, Int.add_mul, Int.mul_sub]
      omega
    · obtain ⟨c, h1, h2, h3⟩ := clip s hl ht fun q hq => by have := st.lo q hq; omega
      refine ⟨c, h1, h2, ?_⟩
      have hb : bro ((len, n) :: rows) t = 0 := bro_far fun r hr => by
        rcases List.mem_cons.mp hr with rfl | hr
        · show t + 1 ≤ len; omega
        · have := (run_lens gd run s' r hr).1; omega
      rw [h3, hb]; omega
end L2.HW
namespace L2.HW
open PySem PySem.Spec PyProof.Rows
theorem run_weak {W : Wb} (gd : W.Good) {g g' : List Int} {rows : List Row} (h : Run W g rows g') {t : Int} {c : Int → Int} (hb : c W.b = 0) (he : c W.e = t + 1) : ∀ {val last : Int} {f : Int → Int}, St W g val last f → val * (t + 1) - costW W g + bro rows t ≤ worthW W c := by
  have weak : ∀ {g : List Int} {val last : Int} {f : Int → Int}, St W g val last f → val * (t + 1) - costW W g ≤ worthW W c := by
    intro g val last f s
    have := weak_dual s c
    rwa [hb, he, Int.sub_zero] at this
  induction h with
  | nil =>
    intro val last f s
    have := weak s
    simp [bro]
    exact this
  | @cons g g' p n len rows st run ih =>
    intro val last f s
    obtain ⟨k1, f', s'⟩ := step_ok gd s st
    by_cases e : len ≤ t + 1
    · have h3 := ih s'
      have hiA : ∀ a ∈ p, isArc W a := fun a ha => resid_arc gd (BF.pth_mem st.wk a ha)
      have hc : costW W (pushA n g p) = costW W g + n * len := by
        unfold costW
        rw [pushA_cost n s.wd.1 hiA, st.ln]
      have hb : bro ((len, n) :: rows) t = n * (t + 1 - len) + bro rows t := by
        unfold bro
        rw [List.map_cons, List.sum_cons]
        have : max 0 (t + 1 - len) = t + 1 - len := by omega
        rw [this]
      rw [hc, Int.add_mul] at h3
      rw [hb, Int.mul_sub]
      omega
    · have hb : bro ((len, n) :: rows) t = 0 := bro_far fun r hr => by
        rcases List.mem_cons.mp hr with rfl | hr
        · show t + 1 ≤ len; omega
        · have := (run_lens gd run s' r hr).1; omega
      have := weak s
      omega
def zerosW (W : Wb) : List Int := List.replicate W.rs.length 0
theorem zeros_st {W : Wb} (gd : W.Good) : St W (zerosW W) 0 0 (fun _ => 0) := by
  have gz : ∀ i, (zerosW W).getD i 0 = 0 := fun i => by
    unfold zerosW
    rw [List.getD_eq_getElem?_getD, List.getElem?_replicate]
    split <;> rfl
  refine ⟨⟨by simp [zerosW], fun i r hr => ?_⟩, fun h => ?_, fun i r hr => ?_, rfl, rfl, fun _ => Int.le_refl _⟩
  · have := (gd.rs r (List.mem_of_getElem? hr)).w1
    rw [gz]; omega
  · have : sumW W (fun r x => x * (h r.v - h r.u)) (zerosW W) = (W.rs.map fun _ => (0 : Int)).sum := zip_eq (by simp [zerosW]) fun i r _ => by rw [gz]; simp
    rw [this]
    have : ∀ l : List Rd, (l.map fun _ => (0 : Int)).sum = 0 := fun l => by
      induction l with
      | nil => rfl
      | cons a l ih => rw [List.map_cons, List.sum_cons, ih]; rfl
    rw [this]; simp
  · have := (gd.rs r (List.mem_of_getElem? hr)).l1
    rw [gz]
    exact ⟨fun _ => by omega, fun z => by omega⟩
theorem runs_bro {W : Wb} (gd : W.Good) {g1 g2 : List Int} {r1 r2 : List Row} (h1 : Run W (zerosW W) r1 g1) (s1 : ∀ q, ¬ arB.pth (resid W g1) W.b q W.e) (h2 : Run W (zerosW W) r2 g2) (s2 : ∀ q, ¬ arB.pth (resid W g2) W.b q W.e) {t : Int} (ht : 0 ≤ t + 1) : bro r1 t = bro r2 t := by
  obtain ⟨c1, a1, a2, a3⟩ := run_dual gd h1 s1 (zeros_st gd) (by omega) ht
  obtain ⟨c2, b1, b2, b3⟩ := run_dual gd h2 s2 (zeros_st gd) (by omega) ht
  have w1 := run_weak gd h1 b1 b2 (zeros_st gd)
  have w2 := run_weak gd h2 a1 a2 (zeros_st gd)
  omega
end L2.HW
namespace L2.HW
open PySem PySem.Spec PyProof.Rows
theorem bro_cons (r : Row) (rows : List Row) (t : Int) : bro (r :: rows) t = r.2 * max 0 (t + 1 - r.1) + bro rows t := by
  unfold bro
  rw [List.map_cons, List.sum_cons]
theorem bro_at {r : Row} {rows : List Row} (h : ∀ x ∈ rows, r.1 < x.1) : bro (r :: rows) r.1 = r.2 := by
  rw [bro_cons, bro_far (t := r.1) fun x hx => by have := h x hx; omega]
  have : max 0 (r.1 + 1 - r.1) = 1 := by omega
  rw [this]; omega
theorem rows_uniq : ∀ {a b : List Row}, a.Pairwise (fun x y => x.1 < y.1) → b.Pairwise (fun x y => x.1 < y.1) → (∀ r ∈ a, 0 ≤ r.1 ∧ 0 < r.2) → (∀ r ∈ b, 0 ≤ r.1 ∧ 0 < r.2) → (∀ t, 0 ≤ t → bro a t = bro b t) → a = b
  | [], [], _, _, _, _, _ => rfl
  | [], y :: b, _, hb, _, kb, h => by
    obtain ⟨k0, k1⟩ := kb y List.mem_cons_self
    have := h y.1 k0
    rw [bro_at (List.pairwise_cons.mp hb).1] at this
    have : (0 : Int) = y.2 := this
    omega
  | x :: a, [], ha, _, ka, _, h => by
    obtain ⟨k0, k1⟩ := ka x List.mem_cons_self
    have := h x.1 k0
    rw [bro_at (List.pairwise_cons.mp ha).1] at this
    have : x.2 = (0 : Int) := this
    omega
  | x :: a, y :: b, ha, hb, ka, kb, h => by
    obtain ⟨a1, a2⟩ := List.pairwise_cons.mp ha
    obtain ⟨b1, b2⟩ := List.pairwise_cons.mp hb
    obtain ⟨x0, x1⟩ := ka x List.mem_cons_self
    obtain ⟨y0, y1⟩ := kb y List.mem_cons_self
    have e1 : x.1 = y.1 := by
      by_cases c : x.1 < y.1
      · have := h x.1 x0
        rw [bro_at a1, bro_far fun z hz => by
          rcases List.mem_cons.mp hz with rfl | hz
          · omega
          · have := b1 z hz; omega] at this
        omega
      · by_cases c2 : y.1 < x.1
        · have := h y.1 y0
          rw [bro_at b1, bro_far fun z hz => by
            rcases List.mem_cons.mp hz with rfl | hz
            · omega
            · have := a1 z hz; omega] at this
          omega
        · omega
    have e2 : x.2 = y.2 := by
      have := h x.1 x0
      rw [bro_at a1, e1, bro_at b1] at this
      exact this
    have exy : x = y := Prod.ext e1 e2
    subst exy
    rw [rows_uniq a2 b2 (fun r hr => ka r (List.mem_cons_of_mem _ hr)) (fun r hr => kb r (List.mem_cons_of_mem _ hr)) fun t ht => by
      have := h t ht
      rw [bro_cons, bro_cons] at this
      omega]
end L2.HW
namespace L2.HW
open PySem PySem.Spec PyProof.Rows
def addR (ks : List Row) (r : Row) : List Row := aput ks r.1 ((alook ks r.1).getD 0 + r.2)
theorem aput_cons_eq {γ : Type} {a : Int} {x v : γ} {ks : List (Int × γ)} (h : a ∉ ks.map (·.1)) : aput ((a, x) :: ks) a v = (a, v) :: ks := by
  unfold aput tIx.aput
  rw [if_pos (by simp)]
  rw [List.map_cons]
  simp only [if_true]
  congr 1
  conv => rhs; rw [← List.map_id ks]
  refine List.map_congr_left fun p hp => ?_
  rw [if_neg fun e => h (List.mem_map.mpr ⟨p, hp, e⟩)]
  rfl
theorem aput_cons_ne {γ : Type} {a k : Int} {x v : γ} {ks : List (Int × γ)} (h : a ≠ k) : aput ((a, x) :: ks) k v = (a, x) :: aput ks k v := by
  unfold aput tIx.aput
  rw [List.any_cons]
  have : decide (a = k) = false := decide_eq_false h
  simp only [this, Bool.false_or]
  split
  · rw [List.map_cons]
    simp only [if_neg h]
  · rfl
theorem bro_addR (r : Row) (t : Int) : ∀ {ks : List Row}, (ks.map (·.1)).Nodup → bro (addR ks r) t = bro ks t + r.2 * max 0 (t + 1 - r.1)
  | [], _ => by
    have : addR [] r = [(r.1, 0 + r.2)] := rfl
    rw [this, bro_cons]
    simp [bro]
  | (a, x) :: ks, h => by
    obtain ⟨h1, h2⟩ := List.nodup_cons.mp h
    by_cases e : a = r.1
    · subst e
      have : addR ((r.1, x) :: ks) r = (r.1, x + r.2) :: ks := by
        unfold addR
        rw [look_cons, if_pos rfl]
        exact aput_cons_eq h1
      rw [this, bro_cons, bro_cons, Int.add_mul]
      simp only
      omega
    · have : addR ((a, x) :: ks) r = (a, x) :: addR ks r := by
        unfold addR
        rw [look_cons, if_neg e]
        exact aput_cons_ne e
      rw [this, bro_cons, bro_cons, bro_addR r t h2]
      omega
theorem addR_nodup {ks : List Row} (h : (ks.map (·.1)).Nodup) (r : Row) : ((addR ks r).map (·.1)).Nodup := by
  unfold addR
  rw [keys_aput]
  exact nodup_insK h
theorem addR_mem {P : Int → Prop} {ks : List Row} {r : Row} (hk : ∀ x ∈ ks, P x.1 ∧ 0 < x.2) (hr : P r.1 ∧ 0 < r.2) : ∀ x ∈ addR ks r, P x.1 ∧ 0 < x.2 := by
  intro x hx
  have hv : 0 < (alook ks r.1).getD 0 + r.2 := by
    cases e : alook ks r.1 with
    | none => simpa using hr.2
    | some y =>
      have : ∃ p ∈ ks, p.1 = r.1 ∧ p.2 = y := by
        unfold alook at e
        cases f : ks.find? (fun kv => decide (kv.1 = r.1)) with
        | none => rw [f] at e; cases e
        | some p =>
          rw [f] at e
          have e : p.2 = y := by simpa using e
          have f2 := List.find?_some f
          exact ⟨p, List.mem_of_find?_eq_some f, of_decide_eq_true f2, e⟩
      obtain ⟨p, hp, _, rfl⟩ := this
      have := (hk p hp).2
      have := hr.2
      simp
      omega
  unfold addR aput tIx.aput at hx
  split at hx
  · obtain ⟨q, hq, rfl⟩ := List.mem_map.mp hx
    split
    · rename_i c
      exact ⟨(hk q hq).1, hv⟩
    · exact hk q hq
  · rcases List.mem_append.mp hx with hx | hx
    · exact hk x hx
    · have : x = (r.1, (alook ks r.1).getD 0 + r.2) := by simpa using hx
      subst this
      exact ⟨hr.1, hv⟩
theorem bro_perm {a b : List Row} (h : a.Perm b) (t : Int) : bro a t = bro b t := by
  induction h with
  | nil => rfl
  | cons x _ ih => rw [bro_cons, bro_cons, ih]
  | swap x y l => rw [bro_cons, bro_cons, bro_cons, bro_cons]; omega
  | trans _ _ i1 i2 => rw [i1, i2]
end L2.HW
namespace L2.HW
open PySem PySem.Spec PyProof.Rows
def gather (rows ks : List Row) : List Row := rows.foldl addR ks
theorem gather_bro (t : Int) : ∀ {rows ks : List Row}, (ks.map (·.1)).Nodup → bro (gather rows ks) t = bro ks t + bro rows t
  | [], ks, _ => by simp [gather, bro]
  | r :: rows, ks, h => by
    show bro (gather rows (addR ks r)) t = _
    rw [gather_bro t (addR_nodup h r), bro_addR r t h, bro_cons]
    omega
theorem gather_nodup : ∀ {rows ks : List Row}, (ks.map (·.1)).Nodup → ((gather rows ks).map (·.1)).Nodup
  | [], _, h => h
  | r :: rows, ks, h => gather_nodup (rows := rows) (addR_nodup h r)
theorem gather_mem {P : Int → Prop} : ∀ {rows ks : List Row}, (∀ x ∈ ks, P x.1 ∧ 0 < x.2) → (∀ x ∈ rows, P x.1 ∧ 0 < x.2) → ∀ x ∈ gather rows ks, P x.1 ∧ 0 < x.2
  | [], _, h, _ => h
  | r :: rows, ks, h, hr => gather_mem (rows := rows) (addR_mem h (hr r List.mem_cons_self)) fun x hx => hr x (List.mem_cons_of_mem _ hx)
theorem asc_of {l : List Row} (h : l.Pairwise fun x y => x.1 ≤ y.1) (n : (l.map (·.1)).Nodup) : l.Pairwise fun x y => x.1 < y.1 := by
  induction l with
  | nil => exact .nil
  | cons a l ih =>
    obtain ⟨h1, h2⟩ := List.pairwise_cons.mp h
    obtain ⟨n1, n2⟩ := List.nodup_cons.mp n
    refine List.pairwise_cons.mpr ⟨fun b hb => ?_, ih h2 n2⟩
    have := h1 b hb
    have : a.1 ≠ b.1 := fun e => n1 (List.mem_map.mpr ⟨b, hb, e.symm⟩)
    omega
theorem runs_same {W : Wb} (gd : W.Good) {g1 g2 : List Int} {r1 r2 : List Row} (h1 : Run W (zerosW W) r1 g1) (s1 : ∀ q, ¬ arB.pth (resid W g1) W.b q W.e) (h2 : Run W (zerosW W) r2 g2) (s2 : ∀ q, ¬ arB.pth (resid W g2) W.b q W.e)
    {l1 l2 : List Row} (p1 : l1.Perm (gather r1 [])) (p2 : l2.Perm (gather r2 [])) (o1 : l1.Pairwise fun x y => x.1 ≤ y.1) (o2 : l2.Pairwise fun x y => x.1 ≤ y.1) : l1 = l2 := by
  have n1 : ((gather r1 []).map (·.1)).Nodup := gather_nodup (by simp)
  have n2 : ((gather r2 []).map (·.1)).Nodup := gather_nodup (by simp)
  have m1 := gather_mem (P := fun i => 0 ≤ i) (ks := []) (by simp) (run_lens gd h1 (zeros_st gd))
  have m2 := gather_mem (P := fun i => 0 ≤ i) (ks := []) (by simp) (run_lens gd h2 (zeros_st gd))
  refine rows_uniq (asc_of o1 ((p1.map _).nodup_iff.mpr n1)) (asc_of o2 ((p2.map _).nodup_iff.mpr n2)) (fun r hr => m1 r (p1.mem_iff.mp hr)) (fun r hr => m2 r (p2.mem_iff.mp hr)) fun t ht => ?_
  rw [bro_perm p1, bro_perm p2, gather_bro t (by simp), gather_bro t (by simp), runs_bro gd h1 s1 h2 s2 (by omega)]
end L2.HW
namespace L2.HW
open PySem PySem.Spec PyProof.Rows
theorem rowsH_ok {W : Wb} (g : W.Good) {B : Int} (hs : W.Sm B) (hB : 0 ≤ B) (hB2 : B < 2 ^ 150) {l : List Hw} (h : Hur W (frW W) l) : ∀ r ∈ rowsH l, small r.1 ∧ small r.2 ∧ 1 ≤ r.1 ∧ 1 ≤ r.2 := by
  obtain ⟨f1, f2⟩ := frW_ok g
  intro r hr
  obtain ⟨x, hx, rfl⟩ := List.mem_map.mp hr
  obtain ⟨h1, h2, h3, h4, _⟩ := hur_rows g hs hB h f1 f2 (fun i => by
    unfold frW
    rw [List.getD_eq_getElem?_getD, List.getElem?_map]
    cases e : W.rs[i]? with
    | none => simpa using hB
    | some r => exact (hs r (List.mem_of_getElem? e)).2) x hx
  refine ⟨?_, ?_, h1, h3⟩
  · unfold small
    show x.1.natAbs < _
    omega
  · unfold small
    show x.2.1.natAbs < _
    omega
section
variable {W : Wb} (g : W.Good) {B : Int} (hs : W.Sm B) (hB : 0 ≤ B) (hB2 : B < 2 ^ 150) {l : List Hw} (h : Hur W (frW W) l)
include g hs hB hB2 h
theorem hurried_most_run {t : Int} (ht : 0 ≤ t) (ht2 : t < 2 ^ 200) (L : LH) : F_hurried_most [.d W.d, .d (.int t)] L = .ok (.d (.int (bro (rowsH l) t))) L := by
  have h1 := look_web g L
  have h2 := look_moment ht L
  have h3 := found_rows_run g h L
  have h4 := brought_run (rows := rowsH l) (t := t) (fun r hr => by have := rowsH_ok g hs hB hB2 h r hr; exact ⟨this.1, this.2.1⟩) (by omega) (by have := hur_few g h; have := g.len; rw [List.length_map]; omega) L
  simp only [List.map_map] at h3 h4
  simp [F_hurried_most, b_hurried_most, mkFn, h1, h2, h3, h4]
theorem hurried_time_none (hl : l = []) {n : Int} (hn : 1 ≤ n) (L : LH) : F_hurried_time [.d W.d, .d (.int n)] L = .ok (.d .none) L := by
  have h1 := look_web g L
  have h2 := look_number hn L
  have h3 := found_rows_run g h L
  subst hl
  have h4 : F_time_for [.d (.list []), .d (.int n)] L = .ok (.d .none) L := by
    have sh0 : SeqAt.shaped (.list []) = true := by simp [SeqAt.shaped, PyData.canLay0, PyData.depth, PyData.canLayAll0, PyData.depthAll]
    have := cmpOk_of sh0 sh0
    have q : PyData.eqv (.list []) (.list []) = true := by simp [PyData.eqv, PyData.eqvAll]
    simp [F_time_for, b_time_for, mkFn, this, q]
  simp at h3
  simp [F_hurried_time, b_hurried_time, mkFn, h1, h2, h3, h4]
theorem hurried_time_run (hl : l ≠ []) {n : Int} (hn : 1 ≤ n) (hn2 : n < 2 ^ 199) (L : LH) : ∃ t : Int, F_hurried_time [.d W.d, .d (.int n)] L = .ok (.d (.int t)) L ∧ bro (rowsH l) (t - 1) < n ∧ n ≤ bro (rowsH l) t := by
  have h1 := look_web g L
  have h2 := look_number hn L
  have h3 := found_rows_run g h L
  have ok := rowsH_ok g hs hB hB2 h
  have len : (rowsH l).length ≤ 16000000 := by have := hur_few g h; have := g.len; rw [List.length_map]; omega
  cases e : rowsH l with
  | nil => exact absurd (List.map_eq_nil_iff.mp e) hl
  | cons r rows =>
    rw [e] at ok len h3
    obtain ⟨t, h4, b1, b2⟩ := time_run (r := r) (rows := rows) (n := n) (fun x hx => by have := ok x hx; exact ⟨this.1, this.2.1, by omega, this.2.2.2⟩) hn (by unfold small; omega) len L
    refine ⟨t, ?_, b1, b2⟩
    simp only [List.map_cons] at h3 h4
    simp [F_hurried_time, b_hurried_time, mkFn, h1, h2, h3, h4]
end
end L2.HW
namespace L2.HW
open PySem PySem.Spec PyProof.Rows
theorem forL_pre {α : Type} {g : Va → En → LH → Res En} {body : SFn} (enc : α → Va) (R : List α → En → LH → Prop) (xs : List α)
    (k : ∀ pre x ws env L, xs = pre ++ x :: ws → R pre env L → ∃ env1 L1, g (enc x) env L = .ok env1 L1 ∧ ∃ env2 L2, (body env1 L1 = .nx env2 L2 ∨ body env1 L1 = .ct env2 L2) ∧ R (pre ++ [x]) env2 L2) :
    ∀ (ws pre : List α) (env : En) (L : LH), xs = pre ++ ws → R pre env L → ∃ env' L', forL g body (ws.map enc) env L = .nx env' L' ∧ R xs env' L'
  | [], pre, env, L, e, h => ⟨env, L, rfl, by rw [e, List.append_nil]; exact h⟩
  | x :: ws, pre, env, L, e, h => by
    obtain ⟨env1, L1, e1, env2, L2, e2, h2⟩ := k pre x ws env L e h
    obtain ⟨env', L', e3, h3⟩ := forL_pre enc R xs k ws (pre ++ [x]) env2 L2 (by rw [e]; simp) h2
    refine ⟨env', L', ?_, h3⟩
    rw [List.map_cons]
    unfold forL
    rw [e1]
    rcases e2 with e2 | e2 <;> simp only [e2] <;> exact e3
theorem flat_le {α β : Type} {f : α → List β} {c : Nat} : ∀ {l : List α}, (∀ x ∈ l, (f x).length ≤ c) → (l.flatMap f).length ≤ l.length * c
  | [], _ => by simp
  | x :: l, h => by
    have h1 := h x List.mem_cons_self
    have h2 := flat_le fun y hy => h y (List.mem_cons_of_mem _ hy)
    rw [List.flatMap_cons, List.length_append, List.length_cons, Nat.succ_mul]
    omega
end L2.HW
namespace L2.HW
open PySem PySem.Spec PyProof.Rows
def Ar.d (a : Ar) : PyData := .tuple [.int a.u, .int a.v, .int a.c, .int a.i, .int a.cap]
theorem arcsOf_len (x : Int) (a : Rd × Nat) : (arcsOf x a).length ≤ 2 := by
  unfold arcsOf
  rw [List.length_append]
  split <;> split <;> simp
def UsV (L : LH) (u : Va) (g : List Int) : Prop := ∀ e : LH, (∀ i : Int, Va.dget (L ++ e) u (.d (.int i)) = none) ∧ Va.seq (L ++ e) u = some (g.map fun x => Va.d (.int x))
theorem usV_loc {L : LH} {n : Nat} {g : List Int} (hn : L[n]? = some (some (frO g))) : UsV L (.loc n) g := fun e => by
  have hlt : n < L.length := (List.getElem?_eq_some_iff.mp hn).1
  have : (L ++ e)[n]? = some (some (frO g)) := by rw [List.getElem?_append_left hlt]; exact hn
  exact ⟨fun i => by simp only [Va.dget, this, frO], by simp only [Va.seq, this, frO]⟩
theorem UsV.app {L : LH} {u : Va} {g : List Int} (h : UsV L u g) (x : LH) : UsV (L ++ x) u g := fun e => by rw [List.append_assoc]; exact h _
def AST (W : Wb) (n : Va) (L : LH) (g : List Int) (pre : List (Rd × Nat)) (env : En) (M : LH) : Prop :=
  ∃ a b c d e, env = [some (.d W.d), some n, some (.loc L.length), a, b, c, d, e] ∧ M = L ++ [some (.lst (((pre.flatMap fun a => arcsOf (g.getD a.2 0) a).map Ar.d).map Va.d))]
theorem arcs_body {W : Wb} {g : List Int} {L : LH} {n : Va} (hn : UsV L n g) (hl : g.length = W.rs.length) {acc : List PyData} (hacc : acc.length + 2 < sizeLine) {x : Rd × Nat} (hx : x ∈ W.rs.zipIdx) :
    b_arcs_1 [some (.d W.d), some n, some (.loc L.length), some (.d (.int x.2)), some (.d (.int x.1.u)), some (.d (.int x.1.v)), some (.d (.int x.1.l)), some (.d (.int x.1.w))] (L ++ [some (.lst (acc.map Va.d))]) =
      .nx [some (.d W.d), some n, some (.loc L.length), some (.d (.int x.2)), some (.d (.int x.1.u)), some (.d (.int x.1.v)), some (.d (.int x.1.l)), some (.d (.int x.1.w))] (L ++ [some (.lst ((acc ++ (arcsOf (g.getD x.2 0) x).map Ar.d).map Va.d))]) := by
  have hs := sizeLine_eq
  have hil : x.2 < g.length := by rw [hl]; exact (List.getElem?_eq_some_iff.mp (mem_zip hx)).1
  have hat := frs_at hil
  obtain ⟨q, hq⟩ : ∃ q, q = g.getD x.2 0 := ⟨_, rfl⟩
  rw [← hq] at hat ⊢
  have cell : ∀ ws : List Va, Va.dget (L ++ [some (Ob.lst ws)]) n (.d (.int x.2)) = none ∧ Va.seq (L ++ [some (Ob.lst ws)]) n = some (g.map fun x => Va.d (.int x)) := fun ws => ⟨(hn _).1 _, (hn _).2⟩
  have z5 : 5 ≤ sizeLine := by omega
  have l1 : acc.length < sizeLine := by omega
  have l2 : acc.length + 1 < sizeLine := by omega
  unfold arcsOf
  by_cases h1 : q < x.1.w <;> by_cases h2 : 0 < q <;> simp [b_arcs_1, (cell _).1, (cell _).2, hat, h1, h2, opGt, z5, l1, l2, Ar.d]
theorem arcs_runU {W : Wb} (gd : W.Good) {g : List Int} {L : LH} {n : Va} (hn : UsV L n g) (hl : g.length = W.rs.length) : F_arcs [.d W.d, n] L = .ok (.d (.list ((resid W g).map Ar.d))) L := by
  have hs := sizeLine_eq
  have glen := gd.len
  have W0 := forL_pre (g := tTupT 2 (tgCons (tN 3) (tgCons (tTupT 4 (tgCons (tN 4) (tgCons (tN 5) (tgCons (tN 6) (tgCons (tN 7) tgNil))))) tgNil))) (body := b_arcs_1) encE (AST W n L g) W.rs.zipIdx ?_ W.rs.zipIdx [] [some (.d W.d), some n, some (.loc L.length), none, none, none, none, none] (L ++ [some (.lst [])]) rfl ⟨_, _, _, _, _, rfl, rfl⟩
  · obtain ⟨env', M', e1, a, b, c, d, e, rfl, rfl⟩ := W0
    refine fn_out rfl ?_ (w := .loc L.length) (L' := L ++ [some (.lst (((resid W g).map Ar.d).map Va.d))]) ?_ (outV_app _ _ _)
    · refine seq_nx (env1 := [some (.d W.d), some n, some (.loc L.length), none, none, none, none, none]) (L1 := L ++ [some (.lst [])]) (by simp) ?_
      refine seq_nx (for_nx (ws := W.rs.zipIdx.map encE) ?_ e1) (by simp [resid])
      rw [← enum_rds]
      simp [Wb.d, srcOf]
    · rw [settle_loc, if_neg (by omega)]
      simp only [List.getElem?_concat_length, settleO_d]
  · rintro pre x ws env M hx ⟨a, b, c, d, e, rfl, rfl⟩
    have hm : x ∈ W.rs.zipIdx := by rw [hx]; simp
    have hacc : ((pre.flatMap fun a => arcsOf (g.getD a.2 0) a).map Ar.d).length + 2 < sizeLine := by
      have h1 := flat_le (f := fun a : Rd × Nat => arcsOf (g.getD a.2 0) a) (c := 2) (l := pre) fun a _ => arcsOf_len _ a
      have h2 : pre.length ≤ W.rs.zipIdx.length := by rw [hx]; simp
      rw [List.length_zipIdx] at h2
      rw [List.length_map]
      omega
    refine ⟨[some (.d W.d), some n, some (.loc L.length), some (.d (.int x.2)), some (.d (.int x.1.u)), some (.d (.int x.1.v)), some (.d (.int x.1.l)), some (.d (.int x.1.w))], _, by simp [encE, Rd.d], _, _, .inl (arcs_body hn hl hacc hm), _, _, _, _, _, rfl, ?_⟩
    simp
end L2.HW
namespace L2.HW
open PySem PySem.Spec PyProof.Rows
namespace BF
variable {γ Arc : Type} {B : BF γ Arc}
theorem round_st {J : List (Int × γ) → Prop} : ∀ {A : List Arc} {ks : List (Int × γ)}, (∀ a ∈ A, ∀ ks, J ks → J (B.rel ks a)) → J ks → J (B.round A ks)
  | [], _, _, h => h
  | a :: A, ks, hs, h => round_st (A := A) (fun c hc => hs c (List.mem_cons_of_mem _ hc)) (hs a List.mem_cons_self ks h)
theorem run_st {J : List (Int × γ) → Prop} {A : List Arc} (hs : ∀ a ∈ A, ∀ ks, J ks → J (B.rel ks a)) : ∀ {n : Nat} {ks : List (Int × γ)}, J ks → J (B.run A n ks)
  | 0, _, h => h
  | n + 1, _, h => run_st hs (n := n) (round_st hs h)
theorem rel_or (ks : List (Int × γ)) (a : Arc) : B.rel ks a = ks ∨ ∃ x, alook ks (B.tl a) = some x ∧ B.rel ks a = aput ks (B.hd a) (B.ext x a) ∧ ∀ y, alook ks (B.hd a) = some y → B.le y (B.ext x a) = false := by
  unfold rel
  split
  · exact .inl rfl
  · rename_i x hx
    split
    · rename_i hn
      exact .inr ⟨x, hx, rfl, fun y h => by rw [hn] at h; cases h⟩
    · rename_i y hy
      split
      · exact .inl rfl
      · rename_i hl
        refine .inr ⟨x, hx, rfl, fun z h => ?_⟩
        rw [hy] at h
        cases h
        exact Bool.eq_false_iff.mpr hl
end BF
structure Lb where
  x : Int
  k : Int
  a : Option Ar
deriving DecidableEq
def prB : BF Lb Ar := ⟨Ar.u, Ar.v, fun l a => ⟨l.x + a.c, l.k + 1, some a⟩, fun p q => decide (p.x < q.x ∨ (p.x = q.x ∧ p.k ≤ q.k))⟩
theorem prle {p q : Lb} : prB.le p q = true ↔ (p.x < q.x ∨ (p.x = q.x ∧ p.k ≤ q.k)) := by show decide _ = true ↔ _; exact decide_eq_true_iff
theorem prB_ok : prB.Ok := ⟨fun x => prle.mpr (by omega), fun h k => by rw [prle] at *; omega, fun x y => by rw [prle, prle]; omega, fun a h => by
  rw [prle] at *
  show (_ + a.c < _ + a.c ∨ _ + a.c = _ + a.c ∧ _ + 1 ≤ _ + 1)
  omega⟩
theorem pr_pth {A : List Ar} {y : Int} : ∀ {p : List Ar} {x : Int}, prB.pth A x p y ↔ arB.pth A x p y
  | [], _ => Iff.rfl
  | a :: p, x => by
    show (a ∈ A ∧ a.u = x ∧ prB.pth A a.v p y) ↔ (a ∈ A ∧ a.u = x ∧ arB.pth A a.v p y)
    rw [pr_pth]
theorem pr_ev : ∀ (p : List Ar) (z : Lb), (prB.ev z p).x = z.x + acost p ∧ (prB.ev z p).k = z.k + p.length
  | [], z => by simp [BF.ev, acost]
  | a :: p, z => by
    obtain ⟨h1, h2⟩ := pr_ev p (prB.ext z a)
    refine ⟨?_, ?_⟩
    · show (prB.ev (prB.ext z a) p).x = _
      rw [h1]
      show z.x + a.c + acost p = _
      simp [acost]; omega
    · show (prB.ev (prB.ext z a) p).k = _
      rw [h2]
      show z.k + 1 + _ = _
      simp; omega
theorem pr_cyc {W : Wb} {g : List Int} {f : Int → Int} (h : Pot W g f) : prB.Cyc (resid W g) := fun q p z k => by
  have := pot_walk h (pr_pth.mp k)
  obtain ⟨h1, h2⟩ := pr_ev p z
  rw [prle, h1, h2]
  omega
def lb0 (ks : List (Int × Int)) : List (Int × Lb) := ks.map fun p => (p.1, ⟨p.2, 0, none⟩)
theorem look_lb0 (ks : List (Int × Int)) (k : Int) : alook (lb0 ks) k = (alook ks k).map fun z => ⟨z, 0, none⟩ := look_map (fun z => (⟨z, 0, none⟩ : Lb)) k ks
def plD (W : Wb) (g : List Int) (ks : List (Int × Int)) : List (Int × Lb) := prB.run (resid W g) W.m.toNat (lb0 ks)
def LbJ (A : List Ar) (ks0 : List (Int × Int)) (ks : List (Int × Lb)) : Prop := ∀ k y, alook ks k = some y → match y.a with
  | none => y.k = 0 ∧ alook ks0 k = some y.x
  | some a => 0 < y.k ∧ a ∈ A ∧ a.v = k ∧ ∃ z, alook ks a.u = some z ∧ prB.le (prB.ext z a) y = true
theorem lbJ_k {A : List Ar} {ks0 : List (Int × Int)} {ks : List (Int × Lb)} (h : LbJ A ks0 ks) {k : Int} {y : Lb} (e : alook ks k = some y) : 0 ≤ y.k := by
  have := h k y e
  split at this
  · omega
  · omega
theorem lbJ_rel {A : List Ar} {ks0 : List (Int × Int)} {a : Ar} (ha : a ∈ A) {ks : List (Int × Lb)} (h : LbJ A ks0 ks) : LbJ A ks0 (prB.rel ks a) := by
  have low := BF.rel_low prB_ok ks a
  rcases BF.rel_or (B := prB) ks a with e | ⟨x, hx, e, hl⟩
  · rw [e]; exact h
  · have old : ∀ k y, alook ks k = some y → match y.a with
        | none => y.k = 0 ∧ alook ks0 k = some y.x
        | some a' => 0 < y.k ∧ a' ∈ A ∧ a'.v = k ∧ ∃ z, alook (prB.rel ks a) a'.u = some z ∧ prB.le (prB.ext z a') y = true := fun k y hy => by
      have := h k y hy
      split at this
      · exact this
      · rename_i a' ea
        skip
        obtain ⟨h1, h2, h3, z, h4, h5⟩ := this
        obtain ⟨z', h6, h7⟩ := low _ z h4
        exact ⟨h1, h2, h3, z', h6, prB_ok.trans (prB_ok.mono a' h7) h5⟩
    intro k y hy
    have hy2 := hy
    rw [e, alook_aput] at hy2
    split at hy2
    · rename_i hk
      cases hy2
      obtain ⟨z', h6, h7⟩ := low _ x hx
      have hk0 := lbJ_k h hx
      refine ⟨?_, ha, hk.symm, z', h6, prB_ok.mono a h7⟩
      show 0 < x.k + 1
      omega
    · exact old k y hy2
theorem plD_J (W : Wb) (g : List Int) (ks : List (Int × Int)) : LbJ (resid W g) ks (plD W g ks) := by
  refine BF.run_st (B := prB) (fun a ha ks' h => lbJ_rel ha h) fun k y h => ?_
  rw [look_lb0] at h
  cases e : alook ks k with
  | none => rw [e] at h; cases h
  | some z =>
    rw [e] at h
    cases h
    exact ⟨rfl, rfl⟩
section
variable {W : Wb} (gd : W.Good) {g : List Int} {f : Int → Int} (hp : Pot W g f) {ks : List (Int × Int)} (hk : ∀ k y, alook ks k = some y → 0 ≤ k ∧ k < W.m)
include gd hp hk
theorem pr_hA : ∀ c ∈ resid W g, 0 ≤ prB.hd c ∧ prB.hd c < (W.m.toNat : Int) := fun c hc => by
  have := (resid_place gd hc).2
  exact ⟨this.1, by show c.v < _; omega⟩
theorem pr_hk : ∀ k y, alook (lb0 ks) k = some y → 0 ≤ k ∧ k < (W.m.toNat : Int) := fun k y e => by
  rw [look_lb0] at e
  cases e2 : alook ks k with
  | none => rw [e2] at e; cases e
  | some z => have := hk k z e2; omega
theorem plD_tight {k : Int} {y : Lb} {a : Ar} (h : alook (plD W g ks) k = some y) (ha : y.a = some a) : a ∈ resid W g ∧ a.v = k ∧ ∃ z, alook (plD W g ks) a.u = some z ∧ y.x = z.x + a.c ∧ y.k = z.k + 1 ∧ 0 ≤ z.k := by
  have J := plD_J W g ks
  have h1 := J k y h
  rw [ha] at h1
  obtain ⟨h1, h2, h3, z, h4, h5⟩ := h1
  obtain ⟨y', h6, h7⟩ := BF.run_fix (m := W.m.toNat) prB_ok (pr_cyc hp) (pr_hA gd hp hk) (pr_hk gd hp hk) (Nat.le_refl _) h2 h4
  have h6 : alook (plD W g ks) a.v = some y' := h6
  rw [h3, h] at h6
  cases h6
  rw [prle] at h5 h7
  have e1 : (prB.ext z a).x = z.x + a.c := rfl
  have e2 : (prB.ext z a).k = z.k + 1 := rfl
  rw [e1, e2] at h5 h7
  exact ⟨h2, h3, z, h4, by omega, by omega, lbJ_k J h4⟩
theorem plD_low {s x z : Int} {q : List Ar} (h : alook ks s = some z) (hq : arB.pth (resid W g) s q x) : ∃ y, alook (plD W g ks) x = some y ∧ y.x ≤ z + acost q := by
  obtain ⟨y, e, l⟩ := BF.run_all prB_ok (pr_cyc hp) (pr_hA gd hp hk) (pr_hk gd hp hk) (Nat.le_refl _) (show alook (lb0 ks) s = some ⟨z, 0, none⟩ by rw [look_lb0, h]; rfl) (pr_pth.mpr hq)
  rw [prle, (pr_ev q _).1] at l
  exact ⟨y, e, by simp only at l; omega⟩
inductive Bk (D : List (Int × Lb)) : Int → List Ar → Prop
  | nil {k : Int} {y : Lb} : alook D k = some y → y.a = none → Bk D k []
  | cons {k : Int} {y : Lb} {a : Ar} {p : List Ar} : alook D k = some y → y.a = some a → Bk D a.u p → Bk D k (a :: p)
theorem plc_snoc (s : Int) (p : List Ar) (a : Ar) : arB.plc s (p ++ [a]) = arB.plc s p ++ [a.v] := by
  unfold BF.plc
  rw [List.map_append]
  rfl
theorem acost_app (p q : List Ar) : acost (p ++ q) = acost p + acost q := by unfold acost; rw [List.map_append, List.sum_append]
theorem bk_ex : ∀ (n : Nat) {k : Int} {y : Lb}, alook (plD W g ks) k = some y → y.k.toNat = n → ∃ p, Bk (plD W g ks) k p ∧ p.length = n ∧ ∃ s z, alook ks s = some z ∧ arB.pth (resid W g) s p.reverse k ∧ y.x = z + acost p.reverse ∧ (arB.plc s p.reverse).Nodup ∧
    ∀ x ∈ arB.plc s p.reverse, ∃ y', alook (plD W g ks) x = some y' ∧ y'.k ≤ y.k := by
  intro n
  induction n with
  | zero =>
    intro k y h hn
    have J := plD_J W g ks k y h
    cases ha : y.a with
    | none =>
      rw [ha] at J
      refine ⟨[], .nil h ha, rfl, k, y.x, J.2, rfl, by simp [acost], by simp [BF.plc], fun x hx => ?_⟩
      have : x = k := by simpa [BF.plc] using hx
      subst this
      exact ⟨y, h, Int.le_refl _⟩
    | some a =>
      rw [ha] at J
      obtain ⟨h1, _⟩ := J
      omega
  | succ n ih =>
    intro k y h hn
    cases ha : y.a with
    | none =>
      have J := plD_J W g ks k y h
      rw [ha] at J
      obtain ⟨h1, _⟩ := J
      omega
    | some a =>
      obtain ⟨h1, h2, z, h3, h4, h5, h6⟩ := plD_tight gd hp hk h ha
      obtain ⟨p, b1, b2, s, z0, b3, b4, b5, b6, b7⟩ := ih h3 (by omega)
      refine ⟨a :: p, .cons h ha b1, by simp [b2], s, z0, b3, ?_, ?_, ?_, ?_⟩
      · rw [List.reverse_cons]
        exact BF.pth_app b4 ⟨h1, rfl, h2⟩
      · rw [List.reverse_cons, acost_app gd hp hk, h4, b5]
        simp [acost]; omega
      · rw [List.reverse_cons, plc_snoc gd hp hk, List.nodup_append]
        refine ⟨b6, by simp, fun x hx y' hy e => ?_⟩
        have hy : y' = a.v := by simpa using hy
        obtain ⟨y2, e1, e2⟩ := b7 x hx
        rw [e, hy, h2, h] at e1
        cases e1
        omega
      · rw [List.reverse_cons, plc_snoc gd hp hk]
        intro x hx
        rcases List.mem_append.mp hx with hx | hx
        · obtain ⟨y2, e1, e2⟩ := b7 x hx
          exact ⟨y2, e1, by omega⟩
        · have hx : x = a.v := by simpa using hx
          rw [hx, h2]
          exact ⟨y, h, Int.le_refl _⟩
end
theorem push_rev {n : Int} {g : List Int} {p : List Ar} (hn : (p.map Ar.i).Nodup) (hi : ∀ a ∈ p, a.i < g.length) : pushA n g p.reverse = pushA n g p := by
  refine List.ext_getElem? fun i => ?_
  have hn' : (p.reverse.map Ar.i).Nodup := by rw [List.map_reverse]; exact (List.reverse_perm _).nodup_iff.mpr hn
  have l1 := pushA_len n p g
  have l2 := pushA_len n p.reverse g
  by_cases hl : i < g.length
  · have h : (pushA n g p.reverse).getD i 0 = (pushA n g p).getD i 0 := by
      by_cases h : i ∈ p.map Ar.i
      · obtain ⟨a, ha, rfl⟩ := List.mem_map.mp h
        rw [pushA_in n hn hi ha, pushA_in n hn' (fun b hb => hi b (List.mem_reverse.mp hb)) (List.mem_reverse.mpr ha)]
      · rw [pushA_out n h, pushA_out n (by rw [List.map_reverse, List.mem_reverse]; exact h)]
    rw [List.getD_eq_getElem?_getD, List.getD_eq_getElem?_getD] at h
    rw [List.getElem?_eq_getElem (by omega), List.getElem?_eq_getElem (by omega)] at h ⊢
    simpa using h
  · rw [List.getElem?_eq_none (by omega), List.getElem?_eq_none (by omega)]
end L2.HW
namespace L2.HW
open PySem PySem.Spec PyProof.Rows
def arO : Option Ar → PyData
  | none => .none
  | some a => a.d
def Lb.d (l : Lb) : PyData := .tuple [.int l.x, .int l.k, arO l.a]
abbrev dLb (s : List (Int × Lb)) : List (Int × Va) := s.map fun p => (p.1, Va.d p.2.d)
theorem look_dLb (s : List (Int × Lb)) (k : Int) : alook (dLb s) k = (alook s k).map fun x => Va.d x.d := look_map (fun x : Lb => Va.d x.d) k s
theorem aput_dLb (s : List (Int × Lb)) (k : Int) (v : Lb) : aput (dLb s) k (Va.d v.d) = dLb (aput s k v) := aput_map (fun x : Lb => Va.d x.d) _ _ _
theorem lex2 (a b c d : Int) : HT.lexLt [a, b] [c, d] = !decide (c < a ∨ (c = a ∧ d ≤ b)) := by
  by_cases h : a < c
  · have : ¬ (c < a ∨ (c = a ∧ d ≤ b)) := by omega
    have h4 : ¬ a = c := by omega
    simp [HT.lexLt, h, this, h4]
  · by_cases h2 : a = c
    · subst h2
      by_cases h3 : b < d
      · have : ¬ d ≤ b := by omega
        have h4 : ¬ b = d := by omega
        simp [HT.lexLt, h3, this, h4]
      · have : d ≤ b := by omega
        simp [HT.lexLt, h3, this]
    · have : (c < a ∨ (c = a ∧ d ≤ b)) := by omega
      simp [HT.lexLt, h, h2, this]
theorem dist1_run {W : Wb} (gd : W.Good) {L : LH} {s : List (Int × Lb)} (hs : PlKeys W.m s) {a : Ar} {x1 x2 x4 x5 x7 x8 x9 : Option Va} :
    ∃ y7 y8, b_distances_1 [some (.d W.d), x1, x2, some (.loc L.length), x4, x5, some (.d a.d), x7, x8, x9] (L ++ [some (.di (dLb s))]) =
      .nx [some (.d W.d), x1, x2, some (.loc L.length), x4, x5, some (.d a.d), y7, y8, x9] (L ++ [some (.di (dLb (prB.rel s a)))]) := by
  have few := hs.few gd.mM
  have hlen : (dLb s).length < sizeLine := by rw [List.length_map]; exact few
  have hb : (L ++ [some (Ob.di (dLb s))])[L.length]? = some (some (.di (dLb s))) := by simp
  have d3 : ∀ k : Int, Va.dget (L ++ [some (Ob.di (dLb s))]) (.loc L.length) (.d (.int k)) = some ((alook s k).map fun x => Va.d x.d) := by
    intro k
    simp only [Va.dget, hb, look_dLb]
  have z2 : 2 ≤ sizeLine := by rw [sizeLine_eq]; omega
  have z3 : 3 ≤ sizeLine := by rw [sizeLine_eq]; omega
  cases hu : alook s a.u with
  | none =>
    have : prB.rel s a = s := by simp [BF.rel, prB, hu]
    exact ⟨x7, x8, by simp [b_distances_1, Ar.d, d3, hu, this]⟩
  | some x =>
    refine ⟨some (.d (.int (x.x + a.c))), some (.d (.int (x.k + 1))), ?_⟩
    cases hv : alook s a.v with
    | none =>
      have : prB.rel s a = aput s a.v ⟨x.x + a.c, x.k + 1, some a⟩ := by simp [BF.rel, prB, hv, hu]
      have e := aput_dLb s a.v ⟨x.x + a.c, x.k + 1, some a⟩
      simp only [Lb.d, arO, Ar.d] at e
      simp [b_distances_1, Ar.d, d3, hu, hv, this, Lb.d, hb, few, z3, ← e]
    | some y =>
      have hlt : HT.lexLt [x.x + a.c, x.k + 1] [y.x, y.k] = !prB.le y ⟨x.x + a.c, x.k + 1, some a⟩ := lex2 _ _ _ _
      have cut := cut_lo [PyData.int y.x, .int y.k, arO y.a] 2 (by omega) (by simp)
      by_cases hy : prB.le y ⟨x.x + a.c, x.k + 1, some a⟩ = true
      · have : prB.rel s a = s := by
          unfold BF.rel
          rw [show prB.tl a = a.u from rfl, hu, show prB.hd a = a.v from rfl]
          simp only [hv]
          exact if_pos hy
        rw [hy] at hlt
        simp [b_distances_1, Ar.d, d3, hu, hv, this, Lb.d, cut, intsOf, hlt, z2]
      · have : prB.rel s a = aput s a.v ⟨x.x + a.c, x.k + 1, some a⟩ := by
          unfold BF.rel
          rw [show prB.tl a = a.u from rfl, hu, show prB.hd a = a.v from rfl]
          simp only [hv]
          exact if_neg hy
        have e := aput_dLb s a.v ⟨x.x + a.c, x.k + 1, some a⟩
        simp only [Lb.d, arO, Ar.d] at e
        rw [Bool.eq_false_iff.mpr hy] at hlt
        simp [b_distances_1, Ar.d, d3, hu, hv, this, Lb.d, cut, intsOf, hlt, z2, z3, hb, few, ← e]
theorem rel_keysP {W : Wb} (gd : W.Good) {g : List Int} {s : List (Int × Lb)} (hs : PlKeys W.m s) {a : Ar} (ha : a ∈ resid W g) : PlKeys W.m (prB.rel s a) := by
  obtain ⟨_, h1, h2⟩ := resid_place gd ha
  rcases BF.rel_or (B := prB) s a with e | ⟨x, _, e, _⟩
  · rw [e]; exact hs
  · rw [e]; exact hs.put h1 h2 _
theorem dcompL_put {g : Va → En → LH → Res En} {t : En → LH → Res Bool} {fk fv : EF} {env : En} {L : LH} {α : Type} (enc : α → Va) (h : α → Int) (v : α → Va) : ∀ (xs : List α) (acc : List (Int × Va)),
    (∀ x ∈ xs, ∃ env1, g (enc x) env L = .ok env1 L ∧ t env1 L = .ok true L ∧ fk env1 L = .ok (.d (.int (h x))) L ∧ fv env1 L = .ok (v x) L) → acc.length + xs.length ≤ sizeLine → (xs.map h).Nodup → (∀ x ∈ xs, h x ∉ acc.map (·.1)) →
    dcompL g t fk fv (xs.map enc) acc env L = .ok (acc ++ xs.map fun x => (h x, v x)) L
  | [], acc, _, _, _, _ => by simp [dcompL]
  | x :: xs, acc, k, hz, hn, ha => by
    obtain ⟨env1, e1, e2, e3, e4⟩ := k x List.mem_cons_self
    obtain ⟨n1, n2⟩ := List.nodup_cons.mp hn
    simp only [List.length_cons] at hz
    have ep : aput acc (h x) (v x) = acc ++ [(h x, v x)] := by
      unfold aput tIx.aput
      rw [if_neg]
      intro hc
      obtain ⟨p, hp, e⟩ := List.any_eq_true.mp hc
      exact ha x List.mem_cons_self (List.mem_map.mpr ⟨p, hp, of_decide_eq_true e⟩)
    rw [List.map_cons]
    unfold dcompL
    simp only [e1, e2, if_true, e3, e4]
    rw [if_pos (by omega), ep, dcompL_put enc h v xs _ (fun y hy => k y (List.mem_cons_of_mem _ hy)) (by simp; omega) n2 fun y hy hm => by
      rw [List.map_append, List.mem_append] at hm
      rcases hm with hm | hm
      · exact ha y (List.mem_cons_of_mem _ hy) hm
      · have : h y = h x := by simpa using hm
        exact n1 (List.mem_map.mpr ⟨y, hy, this⟩)]
    simp
def DST (W : Wb) (n : Va) (m : Nat) (L : LH) (g : List Int) (s : List (Int × Lb)) (env : En) (M : LH) : Prop :=
  PlKeys W.m s ∧ ∃ a b c d e, env = [some (.d W.d), some n, some (.loc m), some (.loc L.length), some (.d (.list ((resid W g).map Ar.d))), a, b, c, d, e] ∧ M = L ++ [some (.di (dLb s))]
theorem distances_runU {W : Wb} (gd : W.Good) {g : List Int} {L : LH} {n : Va} {m : Nat} (hn : UsV L n g) (hl : g.length = W.rs.length) {ks : List (Int × Int)} (hm : L[m]? = some (some (.di (dInt ks)))) (hk : PlKeys W.m ks) :
    F_distances [.d W.d, n, .loc m] L = .ok (.dct ((plD W g ks).map fun p => (p.1, p.2.d))) L := by
  have hs := sizeLine_eq
  have m2 := gd.m2
  have mM := gd.mM
  have hmt : m < L.length := (List.getElem?_eq_some_iff.mp hm).1
  have kfew := hk.few gd.mM
  have inner : ∀ (s : List (Int × Lb)) (env : En) (M : LH), DST W n m L g s env M → ∃ env2 M2, b_distances_2 env M = .nx env2 M2 ∧ DST W n m L g (prB.round (resid W g) s) env2 M2 := by
    rintro s env M ⟨hs, a, b, c, d, e, rfl, rfl⟩
    obtain ⟨env', L', e1, hR⟩ := forL_fold (g := tN 6) (body := b_distances_1) (fun a : Ar => Va.d a.d) (DST W n m L g) (fun s p => prB.rel s p) (resid W g) s [some (.d W.d), some n, some (.loc m), some (.loc L.length), some (.d (.list ((resid W g).map Ar.d))), a, b, c, d, e] (L ++ [some (.di (dLb s))]) ⟨hs, a, b, c, d, e, rfl, rfl⟩ (by
      rintro s p hp env M ⟨hs, a, b, c, d, e, rfl, rfl⟩
      obtain ⟨y7, y8, h⟩ := dist1_run gd (L := L) hs (a := p) (x1 := some n) (x2 := some (.loc m)) (x4 := some (.d (.list ((resid W g).map Ar.d)))) (x5 := a) (x7 := c) (x8 := d) (x9 := e)
      exact ⟨_, _, rfl, _, _, .inl h, rel_keysP gd hs hp, _, _, _, _, _, rfl, rfl⟩)
    exact ⟨env', L', for_nx (ws := (resid W g).map fun a => Va.d a.d) (by simp [srcOf]) e1, hR⟩
  have h0 : PlKeys W.m (lb0 ks) := by
    unfold PlKeys lb0
    rw [List.map_map]
    exact hk
  obtain ⟨env', L', e1, hk1, a, b, c, d, e, rfl, rfl⟩ := forL_fold (g := tN 5) (body := b_distances_2) (fun i : Nat => Va.d (.int (0 + (i : Nat)))) (DST W n m L g) (fun s _ => prB.round (resid W g) s) (List.range W.m.toNat) (lb0 ks) [some (.d W.d), some n, some (.loc m), some (.loc L.length), some (.d (.list ((resid W g).map Ar.d))), none, none, none, none, none] (L ++ [some (.di (dLb (lb0 ks)))]) ⟨h0, _, _, _, _, _, rfl, rfl⟩ (by
    rintro s i hi env M ⟨hs, a, b, c, d, e, rfl, rfl⟩
    obtain ⟨env2, M2, h1, h2⟩ := inner s [some (.d W.d), some n, some (.loc m), some (.loc L.length), some (.d (.list ((resid W g).map Ar.d))), some (Va.d (.int (0 + (i : Nat)))), b, c, d, e] _ ⟨hs, _, _, _, _, _, rfl, rfl⟩
    exact ⟨_, _, rfl, env2, M2, .inl h1, h2⟩)
  rw [fold_const, run_repeat, List.length_range] at e1
  have lset : (L.set m none).length = L.length := List.length_set
  have relock : openL (some m) L (L.set m none) = L := by
    simp only [openL, hm]
    refine List.ext_getElem? fun i => ?_
    rw [List.getElem?_set, List.getElem?_set]
    by_cases e : m = i
    · subst e
      rw [if_pos rfl, lset, if_pos hmt, hm]
    · rw [if_neg e, if_neg e]
  have c1 : fDComp (srcIt 2) (tTupT 2 (tgCons (tN 9) (tgCons (tN 7) tgNil))) tTrue (eVar 9) (eTup (aCons (eVar 7) (aCons (eC (.int 0)) (aCons (eC .none) aNil)))) [9, 7] [some (.d W.d), some n, some (.loc m), none, none, none, none, none, none, none] L = .ok (.di (dLb (lb0 ks))) L := by
    have z3 : 3 ≤ sizeLine := by omega
    have hd := dcompL_put (g := tTupT 2 (tgCons (tN 9) (tgCons (tN 7) tgNil))) (t := tTrue) (fk := eVar 9) (fv := eTup (aCons (eVar 7) (aCons (eC (.int 0)) (aCons (eC .none) aNil)))) (env := [some (.d W.d), some n, some (.loc m), none, none, none, none, none, none, none]) (L := L.set m none) (fun p : Int × Int => Va.d (.tuple [.int p.1, .int p.2])) (·.1) (fun p => Va.d (.tuple [.int p.2, .int 0, .none])) ks [] (by
      intro p _
      exact ⟨[some (.d W.d), some n, some (.loc m), none, none, none, none, some (.d (.int p.2)), none, some (.d (.int p.1))], by simp, rfl, by simp, by simp [z3]⟩) (by simp; omega) hk.1 (by simp)
    have hi : itemsV (dInt ks) = ks.map fun p : Int × Int => Va.d (.tuple [.int p.1, .int p.2]) := by
      unfold itemsV
      rw [List.map_map]
      refine List.map_congr_left fun p _ => ?_
      simp [mkTup, datas]
    unfold fDComp
    have es : srcIt 2 [some (.d W.d), some n, some (.loc m), none, none, none, none, none, none, none] L = .ok (itemsV (dInt ks), some m) L := by simp [srcIt, hm]
    rw [es, hi]
    simp only [Res.bind_ok, lockL, wipeE, List.set_cons_succ, List.set_cons_zero] at hd ⊢
    rw [hd]
    simp only [List.nil_append]
    rw [relock]
    simp [lb0, Lb.d, arO]
  refine fn_out rfl ?_ (w := .loc L.length) (L' := L ++ [some (.di (dLb (plD W g ks)))]) ?_ (outV_app _ _ _)
  · refine seq_nx (env1 := [some (.d W.d), some n, some (.loc m), some (.loc L.length), none, none, none, none, none, none]) (L1 := L ++ [some (.di (dLb (lb0 ks)))]) ?_ ?_
    · rw [u_sSet, u_eNew]
      show ((fDComp _ _ _ _ _ _ [some (.d W.d), some n, some (.loc m), none, none, none, none, none, none, none] L).bind _).then _ _ = _
      rw [c1]
      simp
    · have ar := arcs_runU gd (L := L ++ [some (.di (dLb (lb0 ks)))]) (n := n) (g := g) (hn.app _) hl
      refine seq_nx (env1 := [some (.d W.d), some n, some (.loc m), some (.loc L.length), some (.d (.list ((resid W g).map Ar.d))), none, none, none, none, none]) (L1 := L ++ [some (.di (dLb (lb0 ks)))]) (by simp [-List.map_map, ar]) ?_
      refine seq_nx (for_nx (ws := rngV 0 W.m.toNat) ?_ e1) ?_
      · have := rng_ok (c := W.m) (by omega) (by omega)
        simp [Wb.d, this]
      · simp [plD]
  · rw [settle_loc, if_neg (by omega)]
    simp only [List.getElem?_concat_length, settleO]
    rw [mapO_eq (fun p : Int × Lb => (p.1, Va.d p.2.d)) (fun p => (p.1, p.2.d)) _ (fun p _ => by simp)]
theorem distances_run {W : Wb} (gd : W.Good) {g : List Int} {L : LH} {n m : Nat} (hn : L[n]? = some (some (frO g))) (hl : g.length = W.rs.length) {ks : List (Int × Int)} (hm : L[m]? = some (some (.di (dInt ks)))) (hk : PlKeys W.m ks) :
    F_distances [.d W.d, .loc n, .loc m] L = .ok (.dct ((plD W g ks).map fun p => (p.1, p.2.d))) L := distances_runU gd (usV_loc hn) hl hm hk
end L2.HW
namespace L2.HW
open PySem PySem.Spec PyProof.Rows
abbrev dctD (D : List (Int × Lb)) : List (Int × PyData) := D.map fun p => (p.1, p.2.d)
theorem dget_dctD (D : List (Int × Lb)) (k : Int) (L : LH) : Va.dget L (.dct (dctD D)) (.d (.int k)) = some ((alook D k).map fun y => Va.d y.d) := by
  have : alook (dctD D) k = (alook D k).map Lb.d := look_map Lb.d k D
  simp only [Va.dget, this, Option.map_map]
  rfl
theorem bk_b {W : Wb} (gd : W.Good) : ∀ k y, alook [(W.b, (0 : Int))] k = some y → 0 ≤ k ∧ k < W.m := fun k y e => by
  obtain ⟨rfl, _⟩ := (look_one' _ _ _).mp e
  exact ⟨gd.b0, gd.b1⟩
structure ShC (W : Wb) (g : List Int) (D : List (Int × Lb)) (p : List Ar) (n len : Int) : Prop where
  bk : Bk D W.e p
  lb : ∃ y, alook D W.e = some y ∧ y.x = len
  st : Step W g p.reverse n len
  mn : minI (p.map Ar.cap) = some n
  few : p.length ≤ 1000
  ix : ∀ a ∈ p, a ∈ resid W g
theorem short_ex {W : Wb} (gd : W.Good) {g : List Int} {f : Int → Int} (hp : Pot W g f) : (alook (plD W g [(W.b, 0)]) W.e = none ∧ ∀ q, ¬ arB.pth (resid W g) W.b q W.e) ∨ ∃ p n len, ShC W g (plD W g [(W.b, 0)]) p n len := by
  have hk := bk_b gd
  have h0 : alook [(W.b, (0 : Int))] W.b = some 0 := (look_one' _ _ _).mpr ⟨rfl, rfl⟩
  cases h : alook (plD W g [(W.b, 0)]) W.e with
  | none =>
    refine .inl ⟨rfl, fun q hq => ?_⟩
    obtain ⟨y, e, _⟩ := plD_low gd hp hk h0 hq
    rw [h] at e; cases e
  | some y =>
    obtain ⟨p, b1, b2, s, z, b3, b4, b5, b6, _⟩ := bk_ex gd hp hk _ h rfl
    obtain ⟨rfl, rfl⟩ := (look_one' _ _ _).mp b3
    have hmem : ∀ a ∈ p, a ∈ resid W g := fun a ha => BF.pth_mem b4 a (List.mem_reverse.mpr ha)
    have hne : p ≠ [] := by
      rintro rfl
      exact gd.be b4
    obtain ⟨n, hn⟩ := minI_ex (l := p.map Ar.cap) (by simpa using hne)
    obtain ⟨m1, m2⟩ := minI_mem hn
    refine .inr ⟨p, n, y.x, b1, ⟨y, h, rfl⟩, ⟨b4, b6, by omega, fun q hq => ?_, ?_, fun a ha => m2 _ (List.mem_map_of_mem (List.mem_reverse.mp ha))⟩, hn, ?_, hmem⟩
    · obtain ⟨y', e, l⟩ := plD_low gd hp hk h0 hq
      rw [h] at e; cases e
      omega
    · obtain ⟨a, ha, rfl⟩ := List.mem_map.mp m1
      obtain ⟨r, _, h2⟩ := mem_resid.mp (hmem a ha)
      rcases h2 with ⟨c, e⟩ | ⟨c, e⟩
      · rw [e]; show 0 < r.w - g.getD a.i 0; omega
      · rw [e]; exact c
    · have few := nodup_few (m := W.m.toNat) b6 (fun x hx => by
        rcases List.mem_cons.mp hx with rfl | hx
        · have := gd.b0; have := gd.b1; omega
        · obtain ⟨c, hc, rfl⟩ := List.mem_map.mp hx
          have := (resid_place gd (BF.pth_mem b4 c hc)).2
          show 0 ≤ c.v ∧ c.v < _
          omega)
      have := gd.mM
      simp [BF.plc] at few
      omega
def shV (p : List Ar) (len : Int) : PyData := .tuple [.int len, .list (p.map Ar.d)]
section
variable {W : Wb} (gd : W.Good) {g : List Int} {L : LH} {n : Nat} (hn : L[n]? = some (some (frO g))) (hl : g.length = W.rs.length)
include gd hn hl
theorem sh_dist : F_distances [.d W.d, .loc n, .loc L.length] (L ++ [some (.di (dInt [(W.b, 0)]))]) = .ok (.dct (dctD (plD W g [(W.b, 0)]))) (L ++ [some (.di (dInt [(W.b, 0)]))]) := by
  have hlt : n < L.length := (List.getElem?_eq_some_iff.mp hn).1
  exact distances_run gd (by rw [List.getElem?_append_left hlt]; exact hn) hl (by simp) ⟨by simp, by simp [gd.b0, gd.b1]⟩
theorem shortest_none (h : alook (plD W g [(W.b, 0)]) W.e = none) : F_shortest [.d W.d, .loc n] L = .ok (.d .none) L := by
  have hd := sh_dist gd hn hl
  obtain ⟨D, hD⟩ : ∃ D, D = plD W g [(W.b, 0)] := ⟨_, rfl⟩
  rw [← hD] at h hd
  refine fn_out rfl ?_ (w := .d .none) (L' := L ++ [some (.di (dInt [(W.b, 0)]))]) (settle_d _ _ _ _) (outV_app _ _ _)
  refine seq_nx (env1 := [some (.d W.d), some (.loc n), some (.dct (dctD D)), none, none]) (L1 := L ++ [some (.di (dInt [(W.b, 0)]))]) ?_ ?_
  · simp only [List.map_cons, List.map_nil] at hd
    simp [-List.map_map, Wb.d, dsp, mergeA, aput, tIx.aput] at hd ⊢
    simp [-List.map_map, hd]
  · refine seq_rt ?_
    have := dget_dctD D
    simp [-List.map_map, Wb.d, this, h]
theorem shortest_some {p : List Ar} {k len : Int} (s : ShC W g (plD W g [(W.b, 0)]) p k len) : F_shortest [.d W.d, .loc n] L = .ok (.d (shV p len)) L := by
  have hz := sizeLine_eq
  have z2 : 2 ≤ sizeLine := by omega
  have hd := sh_dist gd hn hl
  obtain ⟨D, hD⟩ : ∃ D, D = plD W g [(W.b, 0)] := ⟨_, rfl⟩
  rw [← hD] at s hd
  obtain ⟨y, hy, hyx⟩ := s.lb
  have few := s.few
  have dg := dget_dctD D
  have W1 := while_inv (t := tVal (eOp opNotN (eOp opIx (eOp opIx (eVar 2) (eVar 4)) (eC (.int 2))) (eC .none))) (body := b_shortest_1)
    (I := fun k env M => ∃ x pre rest, Bk D x rest ∧ k = rest.length ∧ pre ++ rest = p ∧ env = [some (.d W.d), some (.loc n), some (.dct (dctD D)), some (.loc (L.length + 1)), some (.d (.int x))] ∧ M = L ++ [some (.di (dInt [(W.b, 0)])), some (.lst ((pre.map Ar.d).map Va.d))])
    (J := fun env M => ∃ x, env = [some (.d W.d), some (.loc n), some (.dct (dctD D)), some (.loc (L.length + 1)), x] ∧ M = L ++ [some (.di (dInt [(W.b, 0)])), some (.lst ((p.map Ar.d).map Va.d))])
    (n := p.length) (env := [some (.d W.d), some (.loc n), some (.dct (dctD D)), some (.loc (L.length + 1)), some (.d (.int W.e))]) (L := L ++ [some (.di (dInt [(W.b, 0)])), some (.lst [])]) ?_ ⟨W.e, [], p, s.bk, rfl, rfl, rfl, rfl⟩
  · obtain ⟨env', L', e1, x, rfl, rfl⟩ := W1
    refine fn_out rfl ?_ (w := .tup [.d (.int len), .loc (L.length + 1)]) (L' := L ++ [some (.di (dInt [(W.b, 0)])), some (.lst ((p.map Ar.d).map Va.d))]) (u := .d (shV p len)) ?_ (outV_app _ _ _)
    · refine seq_nx (env1 := [some (.d W.d), some (.loc n), some (.dct (dctD D)), none, none]) (L1 := L ++ [some (.di (dInt [(W.b, 0)]))]) ?_ ?_
      · simp only [List.map_cons, List.map_nil] at hd
        simp [-List.map_map, Wb.d, dsp, mergeA, aput, tIx.aput] at hd ⊢
        simp [-List.map_map, hd]
      refine seq_nx (env1 := [some (.d W.d), some (.loc n), some (.dct (dctD D)), none, none]) (L1 := L ++ [some (.di (dInt [(W.b, 0)]))]) (by simp [-List.map_map, Wb.d, dg, hy]) ?_
      refine seq_nx (env1 := [some (.d W.d), some (.loc n), some (.dct (dctD D)), some (.loc (L.length + 1)), none]) (L1 := L ++ [some (.di (dInt [(W.b, 0)])), some (.lst [])]) (by simp [-List.map_map]) ?_
      refine seq_nx (env1 := [some (.d W.d), some (.loc n), some (.dct (dctD D)), some (.loc (L.length + 1)), some (.d (.int W.e))]) (L1 := L ++ [some (.di (dInt [(W.b, 0)])), some (.lst [])]) (by simp [-List.map_map, Wb.d]) ?_
      refine seq_nx e1 ?_
      simp [-List.map_map, Wb.d, dg, hy, Lb.d, hyx, z2, datas]
    · have e : settle (L ++ [some (.di (dInt [(W.b, 0)])), some (.lst ((p.map Ar.d).map Va.d))]) L.length 8 (.loc (L.length + 1)) = some (.d (.list (p.map Ar.d))) := by
        rw [settle_loc, if_neg (by omega)]
        have : (L ++ [some (Ob.di (dInt [(W.b, 0)])), some (.lst ((p.map Ar.d).map Va.d))])[L.length + 1]? = some (some (.lst ((p.map Ar.d).map Va.d))) := by simp
        rw [this]
        simp only [settleO_d]
      unfold settle
      simp only [mapO, settle_d, e, shV, u_mkTup, datas, Option.map_some]
  · rintro k env M ⟨x, pre, rest, hb, rfl, hf, rfl, rfl⟩
    cases hb with
    | @nil _ y' e ea =>
      have : pre = p := by simpa using hf
      subst this
      refine .inl ⟨_, ?_, _, rfl, rfl⟩
      simp [-List.map_map, dg, e, Lb.d, ea, arO, Va.isN]
    | @cons _ y' a q e ea hq =>
      have hpre : pre.length < sizeLine := by
        have : pre.length ≤ p.length := by rw [← hf]; simp
        omega
      have hpl : ((pre.map Ar.d).map Va.d).length < sizeLine := by rw [List.length_map, List.length_map]; exact hpre
      obtain ⟨M, hM⟩ : ∃ M, M = L ++ [some (Ob.di (dInt [(W.b, 0)])), some (.lst ((pre.map Ar.d).map Va.d))] := ⟨_, rfl⟩
      have h1 : M[L.length + 1]? = some (some (.lst ((pre.map Ar.d).map Va.d))) := by rw [hM]; simp
      have hset : M.set (L.length + 1) (some (.lst ((pre.map Ar.d).map Va.d ++ [.d a.d]))) = L ++ [some (.di (dInt [(W.b, 0)])), some (.lst (((pre ++ [a]).map Ar.d).map Va.d))] := by rw [hM]; simp
      rw [← hM]
      refine .inr ⟨M, by simp [-List.map_map, dg, e, Lb.d, ea, arO, Ar.d, Va.isN], ?_⟩
      refine ⟨[some (.d W.d), some (.loc n), some (.dct (dctD D)), some (.loc (L.length + 1)), some (.d (.int a.u))], L ++ [some (.di (dInt [(W.b, 0)])), some (.lst (((pre ++ [a]).map Ar.d).map Va.d))], .inl ?_, q.length, by simp, a.u, pre ++ [a], q, hq, rfl, by simpa using hf, rfl, rfl⟩
      rw [← hset]
      simp [-List.map_map, b_shortest_1, dg, e, Lb.d, ea, arO, h1, hpre]
      simp [Ar.d]
end
end L2.HW
namespace L2.HW
open PySem PySem.Spec PyProof.Rows
theorem Run.snoc {W : Wb} {g g' : List Int} {rows : List Row} (h : Run W g rows g') {p : List Ar} {n len : Int} (s : Step W g' p n len) : Run W g (rows ++ [(len, n)]) (pushA n g' p) := by
  induction h with
  | nil => exact .cons s .nil
  | cons t _ ih => exact .cons t (ih s)
theorem run_st {W : Wb} (gd : W.Good) {g g' : List Int} {rows : List Row} (h : Run W g rows g') : ∀ {val last : Int} {f : Int → Int}, St W g val last f → ∃ val' last' f', St W g' val' last' f' ∧ (∀ t : Int, last ≤ t → (∀ r ∈ rows, r.1 ≤ t) → last' ≤ t) ∧ val' = val + (rows.map (·.2)).sum ∧ ∀ t : Int, (∀ r ∈ rows, r.1 ≤ t + 1) → val' * (t + 1) - costW W g' = val * (t + 1) - costW W g + bro rows t := by
  induction h with
  | nil => intro val last f s; exact ⟨val, last, f, s, fun t h _ => h, by simp, fun t _ => by simp [bro]⟩
  | @cons g g' p n len rows st run ih =>
    intro val last f s
    obtain ⟨k1, f', s'⟩ := step_ok gd s st
    obtain ⟨val', last', f'', s'', h1, h2, h3⟩ := ih s'
    refine ⟨val', last', f'', s'', fun t h hr => h1 t (hr _ List.mem_cons_self) fun r hr' => hr r (List.mem_cons_of_mem _ hr'), ?_, fun t hr => ?_⟩
    · rw [h2, List.map_cons, List.sum_cons]; omega
    · have hiA : ∀ a ∈ p, isArc W a := fun a ha => resid_arc gd (BF.pth_mem st.wk a ha)
      have hc : costW W (pushA n g p) = costW W g + n * len := by
        unfold costW
        rw [pushA_cost n s.wd.1 hiA, st.ln]
      have e : len ≤ t + 1 := hr _ List.mem_cons_self
      have hb : bro ((len, n) :: rows) t = n * (t + 1 - len) + bro rows t := by
        rw [bro_cons]
        have : max 0 (t + 1 - len) = t + 1 - len := by omega
        rw [this]
      rw [h3 t fun r hr' => hr r (List.mem_cons_of_mem _ hr'), hc, hb, Int.add_mul, Int.mul_sub]
      omega
def wsum (W : Wb) : Int := (W.rs.map Rd.w).sum
theorem val_le {W : Wb} (gd : W.Good) {g : List Int} {val last : Int} {f : Int → Int} (s : St W g val last f) : val ≤ wsum W := by
  have h := s.fl (fun x => if x = W.e then 1 else 0)
  rw [if_pos rfl, if_neg gd.be] at h
  have h2 : sumW W (fun r x => x * ((if r.v = W.e then (1 : Int) else 0) - if r.u = W.e then 1 else 0)) g ≤ (W.rs.map Rd.w).sum := by
    refine zip_le s.wd.1 fun i r hr => ?_
    obtain ⟨h0, h1⟩ := s.wd.2 i r hr
    have := (gd.rs r (List.mem_of_getElem? hr)).ue
    rw [if_neg this]
    by_cases e : r.v = W.e
    · rw [if_pos e]; omega
    · rw [if_neg e]; omega
  have h3 : val * (1 - 0) = val := by omega
  unfold wsum
  rw [← h3, ← h]
  exact h2
def Few (W : Wb) : Prop := ∀ rows g, Run W (zerosW W) rows g → (gather rows []).length < 16000000
theorem aput_len {γ : Type} (s : List (Int × γ)) (k : Int) (v : γ) : (aput s k v).length ≤ s.length + 1 := by
  unfold aput tIx.aput
  split <;> simp
theorem gather_len : ∀ (rows ks : List Row), (gather rows ks).length ≤ ks.length + rows.length
  | [], ks => by simp [gather]
  | r :: rows, ks => by
    have h := gather_len rows (addR ks r)
    have h2 : (addR ks r).length ≤ ks.length + 1 := aput_len _ _ _
    show (gather rows (addR ks r)).length ≤ _
    simp only [List.length_cons]
    omega
theorem sum_ge_len : ∀ {l : List Row}, (∀ r ∈ l, 0 < r.2) → (l.length : Int) ≤ (l.map (·.2)).sum
  | [], _ => by simp
  | r :: l, h => by
    have h1 := h r List.mem_cons_self
    have h2 := sum_ge_len fun x hx => h x (List.mem_cons_of_mem _ hx)
    simp only [List.length_cons, List.map_cons, List.sum_cons]
    omega
theorem few_of {W : Wb} (gd : W.Good) (h : wsum W < 16000000) : Few W := fun rows g r => by
  obtain ⟨val, last, f, s, _, h2, _⟩ := run_st gd r (zeros_st gd)
  have h3 := val_le gd s
  have h4 := run_lens gd r (zeros_st gd)
  have h5 := sum_ge_len fun x hx => (h4 x hx).2
  have h6 := gather_len rows []
  simp only [List.length_nil] at h6
  omega
def IsCh (W : Wb) (l : List Row) : Prop := ∃ rows g, Run W (zerosW W) rows g ∧ (∀ q, ¬ arB.pth (resid W g) W.b q W.e) ∧ l.Perm (gather rows []) ∧ l.Pairwise fun x y => x.1 ≤ y.1
theorem ch_uniq {W : Wb} (gd : W.Good) {a b : List Row} (h : IsCh W a) (k : IsCh W b) : a = b := by
  obtain ⟨r1, g1, h1, h2, h3, h4⟩ := h
  obtain ⟨r2, g2, k1, k2, k3, k4⟩ := k
  exact runs_same gd h1 h2 k1 k2 h3 k3 h4 k4
theorem sortP_ch {W : Wb} {rows : List Row} {g : List Int} (h : Run W (zerosW W) rows g) (s : ∀ q, ¬ arB.pth (resid W g) W.b q W.e) : IsCh W (sortP (gather rows [])) := ⟨rows, g, h, s, sortP_perm _, sortP_srt _⟩
theorem acost_le {W : Wb} (gd : W.Good) {B : Int} (hs : W.Sm B) (hB : 0 ≤ B) {g : List Int} : ∀ {p : List Ar}, (∀ a ∈ p, a ∈ resid W g) → acost p ≤ p.length * B
  | [], _ => by simp [acost]
  | a :: p, h => by
    have ih := acost_le gd hs hB fun b hb => h b (List.mem_cons_of_mem _ hb)
    have e : acost (a :: p) = a.c + acost p := by simp [acost]
    have h2 : a.c ≤ B := by
      obtain ⟨r, h1, h2⟩ := mem_resid.mp (h a List.mem_cons_self)
      have := (hs r (List.mem_of_getElem? h1)).1
      have := (gd.rs r (List.mem_of_getElem? h1)).l1
      rcases h2 with ⟨_, e⟩ | ⟨_, e⟩
      · rw [e]; show r.l ≤ B; omega
      · rw [e]; show -r.l ≤ B; omega
    have e3 : (((p.length + 1 : Nat) : Int)) * B = p.length * B + B := by
      rw [Int.natCast_add, Int.add_mul]; simp
    rw [e, List.length_cons, e3]
    omega
theorem run_le {W : Wb} (gd : W.Good) {B : Int} (hs : W.Sm B) (hB : 0 ≤ B) {g g' : List Int} {rows : List Row} (h : Run W g rows g') : ∀ r ∈ rows, r.1 ≤ 1000 * B := by
  induction h with
  | nil => intro r hr; cases hr
  | @cons g g' p n len rows st run ih =>
    intro r hr
    rcases List.mem_cons.mp hr with rfl | hr
    · have few := nodup_few (m := W.m.toNat) st.nd (fun x hx => by
        rcases List.mem_cons.mp hx with rfl | hx
        · have := gd.b0; have := gd.b1; omega
        · obtain ⟨c, hc, rfl⟩ := List.mem_map.mp hx
          have := (resid_place gd (BF.pth_mem st.wk c hc)).2
          show 0 ≤ c.v ∧ c.v < _
          omega)
      have := gd.mM
      simp [BF.plc] at few
      have h1 := acost_le gd hs hB (BF.pth_mem st.wk)
      rw [st.ln] at h1
      show len ≤ _
      have : (p.length : Int) * B ≤ 1000 * B := Int.mul_le_mul_of_nonneg_right (by omega) hB
      omega
    · exact ih r hr
theorem gather_wsum : ∀ (rows ks : List Row), (ks.map (·.1)).Nodup → ((gather rows ks).map (·.2)).sum = (ks.map (·.2)).sum + (rows.map (·.2)).sum := by
  have one : ∀ (r : Row) {ks : List Row}, (ks.map (·.1)).Nodup → ((addR ks r).map (·.2)).sum = (ks.map (·.2)).sum + r.2 := by
    intro r ks
    induction ks with
    | nil => intro _; simp [addR, aput, tIx.aput]
    | cons p ks ih =>
      obtain ⟨a, x⟩ := p
      intro h
      obtain ⟨h1, h2⟩ := List.nodup_cons.mp h
      by_cases e : a = r.1
      · subst e
        have : addR ((r.1, x) :: ks) r = (r.1, x + r.2) :: ks := by
          unfold addR
          rw [look_cons, if_pos rfl]
          exact aput_cons_eq h1
        rw [this]
        simp only [List.map_cons, List.sum_cons]
        omega
      · have : addR ((a, x) :: ks) r = (a, x) :: addR ks r := by
          unfold addR
          rw [look_cons, if_neg e]
          exact aput_cons_ne e
        rw [this]
        simp only [List.map_cons, List.sum_cons, ih h2]
        omega
  intro rows
  induction rows with
  | nil => intro ks _; simp [gather]
  | cons r rows ih =>
    intro ks h
    show ((gather rows (addR ks r)).map (·.2)).sum = _
    rw [ih _ (addR_nodup h r), one r h]
    simp only [List.map_cons, List.sum_cons]
    omega
theorem mem_le_sum : ∀ {l : List Row}, (∀ r ∈ l, 0 < r.2) → ∀ r ∈ l, r.2 ≤ (l.map (·.2)).sum
  | x :: l, h, r, hr => by
    have h1 := h x List.mem_cons_self
    have h5 := sum_ge_len fun y hy => h y (List.mem_cons_of_mem _ hy)
    simp only [List.map_cons, List.sum_cons]
    rcases List.mem_cons.mp hr with rfl | hr
    · omega
    · have := mem_le_sum (fun y hy => h y (List.mem_cons_of_mem _ hy)) r hr
      omega
theorem ch_asc {W : Wb} (gd : W.Good) {l : List Row} (h : IsCh W l) : l.Pairwise fun x y => x.1 < y.1 := by
  obtain ⟨rows, g, h1, _, h3, h4⟩ := h
  exact asc_of h4 ((h3.map _).nodup_iff.mpr (gather_nodup (by simp)))
theorem ch_pos {W : Wb} (gd : W.Good) {l : List Row} (h : IsCh W l) : ∀ r ∈ l, 0 ≤ r.1 ∧ 0 < r.2 := fun r hr => by
  obtain ⟨rows, g, h1, _, h3, _⟩ := h
  exact gather_mem (P := fun i => 0 ≤ i) (by simp) (run_lens gd h1 (zeros_st gd)) r (h3.mem_iff.mp hr)
theorem ch_len {W : Wb} (gd : W.Good) {B : Int} (hs : W.Sm B) (hB : 0 ≤ B) {l : List Row} (h : IsCh W l) : ∀ r ∈ l, r.1 ≤ 1000 * B ∧ r.2 ≤ wsum W := fun r hr => by
  obtain ⟨rows, g, h1, _, h3, _⟩ := h
  have hm := h3.mem_iff.mp hr
  have hp := run_lens gd h1 (zeros_st gd)
  have hle := run_le gd hs hB h1
  have hq := gather_mem (P := fun i => 0 ≤ i ∧ i ≤ 1000 * B) (ks := []) (rows := rows) (by simp) (fun x hx => ⟨⟨(hp x hx).1, hle x hx⟩, (hp x hx).2⟩)
  refine ⟨(hq r hm).1.2, ?_⟩
  obtain ⟨val, last, f, s, _, h2, _⟩ := run_st gd h1 (zeros_st gd)
  have h5 := val_le gd s
  have h6 := mem_le_sum (l := gather rows []) (fun x hx => (hq x hx).2) r hm
  rw [gather_wsum rows [] (by simp)] at h6
  simp at h6
  omega
end L2.HW
namespace L2.HW
open PySem PySem.Spec PyProof.Rows
def TM (L : LH) (g : List Int) (rows : List Row) : LH := L ++ [some (frO g), some (.di (dInt (gather rows [])))]
theorem tm_0 (L : LH) (g : List Int) (rows : List Row) : (TM L g rows)[L.length]? = some (some (frO g)) := by simp [TM]
theorem tm_1 (L : LH) (g : List Int) (rows : List Row) : (TM L g rows)[L.length + 1]? = some (some (.di (dInt (gather rows [])))) := by simp [TM]
theorem tm_s0 (L : LH) (g g' : List Int) (rows : List Row) : (TM L g rows).set L.length (some (frO g')) = TM L g' rows := by simp [TM]
theorem tm_s1 (L : LH) (g : List Int) (rows : List Row) (len n : Int) : (TM L g rows).set (L.length + 1) (some (.di (aput (dInt (gather rows [])) len (.d (.int ((alook (gather rows []) len).getD 0 + n)))))) = TM L g (rows ++ [(len, n)]) := by
  have : gather (rows ++ [(len, n)]) [] = addR (gather rows []) (len, n) := by unfold gather; rw [List.foldl_append]; rfl
  rw [aput_dInt]
  simp [TM, this, addR]
theorem aug_loop {L : LH} {rows : List Row} {n : Int} {x0 x1 x3 x4 x7 x8 : Option Va} : ∀ {p : List Ar} {g : List Int} {a : Option Va}, (∀ b ∈ p, b.i < g.length) →
    ∃ x, forL (tN 6) b_taken_1 ((p.map Ar.d).map Va.d) [x0, x1, some (.loc L.length), x3, x4, some (.d (.int n)), a, x7, x8] (TM L g rows) = .nx [x0, x1, some (.loc L.length), x3, x4, some (.d (.int n)), x, x7, x8] (TM L (pushA n g p) rows) := by
  intro p
  induction p with
  | nil => intro g a _; exact ⟨a, rfl⟩
  | cons b p ih =>
    intro g a hp
    have hi := hp b List.mem_cons_self
    obtain ⟨x, hx⟩ := ih (g := push1 n g b) (a := some (.d b.d)) fun c hc => by rw [push1_len]; exact hp c (List.mem_cons_of_mem _ hc)
    refine ⟨x, ?_⟩
    have step : b_taken_1 [x0, x1, some (.loc L.length), x3, x4, some (.d (.int n)), some (.d b.d), x7, x8] (TM L g rows) = .nx [x0, x1, some (.loc L.length), x3, x4, some (.d (.int n)), some (.d b.d), x7, x8] (TM L (push1 n g b) rows) := by
      have h3 := tm_0 L g rows
      have := augIx_run (op := (· + ·)) (fo := eVar 2) (fi := eOp opIx (eVar 6) (eC (.int 3))) (fe := eIf (tVal (eOp opGt (eOp opIx (eVar 6) (eC (.int 2))) (eC (.int 0)))) (eVar 5) (eNeg (eVar 5))) (env := [x0, x1, some (.loc L.length), x3, x4, some (.d (.int n)), some (.d b.d), x7, x8]) (M := TM L g rows) (n := L.length) (i := b.i) (fr := g) (b := if 0 < b.c then n else -n) (by simp) (by simp [Ar.d]) h3 hi (by
        by_cases h : 0 < b.c <;> simp [Ar.d, opGt, h])
      rw [tm_s0] at this
      unfold b_taken_1 push1
      exact this
    rw [List.map_cons, List.map_cons]
    unfold forL
    simp only [tN, List.set_cons_succ, List.set_cons_zero, step]
    exact hx
def loV : Option Int → PyData
  | none => .none
  | some t => .int t
def TKI (W : Wb) (lo : Option Int) (L : LH) (k : Nat) (env : En) (M : LH) : Prop := ∃ g rows val last f v a b c d, Run W (zerosW W) rows g ∧ St W g val last f ∧ k = (wsum W - val).toNat ∧ (∀ t, lo = some t → ∀ r ∈ rows, r.1 ≤ t) ∧
  ((v = .none ∧ ∀ q, ¬ arB.pth (resid W g) W.b q W.e) ∨ ∃ p n len, v = shV p len ∧ ShC W g (plD W g [(W.b, 0)]) p n len) ∧
  env = [some (.d W.d), some (.d (loV lo)), some (.loc L.length), some (.loc (L.length + 1)), some (.d v), a, b, c, d] ∧ M = TM L g rows
def TKJ (W : Wb) (lo : Option Int) (L : LH) (env : En) (M : LH) : Prop := ∃ g rows val last f v a b c d, Run W (zerosW W) rows g ∧ St W g val last f ∧ (∀ t, lo = some t → (∀ r ∈ rows, r.1 ≤ t) ∧ ∀ q, arB.pth (resid W g) W.b q W.e → t < acost q) ∧ (lo = none → ∀ q, ¬ arB.pth (resid W g) W.b q W.e) ∧
  env = [some (.d W.d), some (.d (loV lo)), some (.loc L.length), some (.loc (L.length + 1)), v, a, b, c, d] ∧ M = TM L g rows
theorem short_next {W : Wb} (gd : W.Good) {g : List Int} {L : LH} {n : Nat} (hn : L[n]? = some (some (frO g))) (hl : g.length = W.rs.length) {f : Int → Int} (hp : Pot W g f) : ∃ v, F_shortest [.d W.d, .loc n] L = .ok (.d v) L ∧
    ((v = .none ∧ ∀ q, ¬ arB.pth (resid W g) W.b q W.e) ∨ ∃ p n len, v = shV p len ∧ ShC W g (plD W g [(W.b, 0)]) p n len) := by
  rcases short_ex gd hp with ⟨h1, h2⟩ | ⟨p, k, len, s⟩
  · exact ⟨.none, shortest_none gd hn hl h1, .inl ⟨rfl, h2⟩⟩
  · exact ⟨_, shortest_some gd hn hl s, .inr ⟨p, k, len, rfl, s⟩⟩
theorem frO_rep (W : Wb) : frO (zerosW W) = .lst (rep W.rs.length [Va.d (.int 0)]) := by
  unfold frO zerosW rep
  rw [List.map_replicate, List.flatten_replicate_singleton]
theorem taken_body {W : Wb} (gd : W.Good) (hf : Few W) {lo : Option Int} {L : LH} {k : Nat} {env : En} {M : LH} (hI : TKI W lo L k env M) :
    (∃ L1, (tAndF (tVal (eOp opNotN (eVar 4) (eC .none))) (tOrF (tVal (eOp opIsN (eVar 1) (eC .none))) (tVal (eOp opLe (eOp opIx (eVar 4) (eC (.int 0))) (eVar 1))))) env M = .ok false L1 ∧ TKJ W lo L env L1) ∨
    (∃ L1, (tAndF (tVal (eOp opNotN (eVar 4) (eC .none))) (tOrF (tVal (eOp opIsN (eVar 1) (eC .none))) (tVal (eOp opLe (eOp opIx (eVar 4) (eC (.int 0))) (eVar 1))))) env M = .ok true L1 ∧ ∃ env2 L2, (b_taken_2 env L1 = .nx env2 L2 ∨ b_taken_2 env L1 = .ct env2 L2) ∧ ∃ m, m < k ∧ TKI W lo L m env2 L2) := by
  obtain ⟨g, rows, val, last, f, v, a, b, c, d, hr, s, rfl, hlo, hv, rfl, rfl⟩ := hI
  rcases hv with ⟨rfl, hno⟩ | ⟨p, n, len, rfl, sc⟩
  · refine .inl ⟨TM L g rows, by simp [Va.isN], g, rows, val, last, f, _, a, b, c, d, hr, s, fun t ht => ⟨hlo t ht, fun q hq => absurd hq (hno q)⟩, fun _ => hno, rfl, rfl⟩
  · by_cases hc : ∀ t, lo = some t → len ≤ t
    · refine .inr ⟨TM L g rows, ?_, ?_⟩
      · cases lo with
        | none => simp [shV, loV, Va.isN]
        | some t =>
          have := hc t rfl
          simp [shV, loV, Va.isN, this]
      · have hi : ∀ b ∈ p, b.i < g.length := fun b hb => by
          obtain ⟨r, h1, _⟩ := mem_resid.mp (sc.ix b hb)
          rw [s.wd.1]; exact (List.getElem?_eq_some_iff.mp h1).1
        have hnd : (p.map Ar.i).Nodup := by
          have := arcs_nodup sc.st.wk (fun a ha => resid_arc gd (BF.pth_mem sc.st.wk a ha)) sc.st.nd
          rw [List.map_reverse] at this
          exact (List.reverse_perm _).nodup_iff.mp this
        have hpush := push_rev (n := n) hnd hi
        obtain ⟨k1, f', s'⟩ := step_ok gd s sc.st
        rw [hpush] at s'
        have hr' := hr.snoc sc.st
        rw [hpush] at hr'
        have hfew0 := hf _ _ hr
        have hfew : (gather rows []).length < sizeLine := by rw [sizeLine_eq]; omega
        have hz := sizeLine_eq
        have hv' := val_le gd s'
        have n0 := sc.st.n0
        obtain ⟨x, hx⟩ := aug_loop (L := L) (rows := rows) (n := n) (p := p) (g := g) hi (a := b) (x0 := some (.d W.d)) (x1 := some (.d (loV lo))) (x3 := some (.loc (L.length + 1))) (x4 := some (.d (shV p len))) (x7 := some (.d (.int len))) (x8 := some (.d (.list (p.map Ar.d))))
        have c1 := fComp_tym (s := srcV (eVar 8)) (g := tN 6) (f := eOp opIx (eVar 6) (eC (.int 4))) (vs := [6]) (env := [some (.d W.d), some (.d (loV lo)), some (.loc L.length), some (.loc (L.length + 1)), some (.d (shV p len)), a, b, some (.d (.int len)), some (.d (.list (p.map Ar.d)))]) (L := TM L g rows) (fun a : Ar => Va.d a.d) (fun a => Va.d (.int a.cap)) p (by simp [srcOf]) (by have := sc.few; omega) (by
          intro a _
          exact ⟨_, rfl, by simp [wipeE, Ar.d, Va.dget, Va.seq, atI, ixN]⟩)
        have e2 : cMin1X [.d (.list (p.map fun a => PyData.int a.cap))] (TM L g rows) = .ok (.d (.int n)) (TM L g rows) := by
          have := cMin1_ints sc.mn (TM L g rows)
          rw [List.map_map] at this
          exact this
        have h0 := tm_0 L (pushA n g p) (rows ++ [(len, n)])
        obtain ⟨v', hv1, hv2⟩ := short_next gd h0 (by rw [pushA_len, s.wd.1]) s'.pt
        have h1 := tm_1 L (pushA n g p) rows
        have hs1 := tm_s1 L (pushA n g p) rows len n
        refine ⟨[some (.d W.d), some (.d (loV lo)), some (.loc L.length), some (.loc (L.length + 1)), some (.d v'), some (.d (.int n)), x, some (.d (.int len)), some (.d (.list (p.map Ar.d)))], TM L (pushA n g p) (rows ++ [(len, n)]), .inl ?_, (wsum W - (val + n)).toNat, by omega, pushA n g p, rows ++ [(len, n)], val + n, len, f', v', _, _, _, _, hr', s', rfl, fun t ht r hr2 => ?_, hv2, rfl, rfl⟩
        · refine seq_nx (env1 := [some (.d W.d), some (.d (loV lo)), some (.loc L.length), some (.loc (L.length + 1)), some (.d (shV p len)), a, b, some (.d (.int len)), some (.d (.list (p.map Ar.d)))]) (L1 := TM L g rows) (by simp [shV]) ?_
          refine seq_nx (env1 := [some (.d W.d), some (.d (loV lo)), some (.loc L.length), some (.loc (L.length + 1)), some (.d (shV p len)), some (.d (.int n)), b, some (.d (.int len)), some (.d (.list (p.map Ar.d)))]) (L1 := TM L g rows) (by simp [-u_eCallB, callB_dat c1 e2]) ?_
          refine seq_nx (for_nx (ws := (p.map Ar.d).map Va.d) (by simp [srcOf]) hx) ?_
          refine seq_nx (env1 := [some (.d W.d), some (.d (loV lo)), some (.loc L.length), some (.loc (L.length + 1)), some (.d (shV p len)), some (.d (.int n)), x, some (.d (.int len)), some (.d (.list (p.map Ar.d)))]) (L1 := TM L (pushA n g p) (rows ++ [(len, n)])) ?_ ?_
          · rw [← hs1]
            obtain ⟨M, hM⟩ : ∃ M, M = TM L (pushA n g p) rows := ⟨_, rfl⟩
            rw [← hM] at h1 ⊢
            have hlk := look_dInt (gather rows []) len
            have hdl : (dInt (gather rows [])).length < sizeLine := by rw [List.length_map]; exact hfew
            obtain ⟨D, hD⟩ : ∃ D, D = dInt (gather rows []) := ⟨_, rfl⟩
            rw [← hD] at hlk h1 hdl ⊢
            cases hq : alook (gather rows []) len with
            | none =>
              rw [hq] at hlk
              simp at hlk
              simp [isD, h1, Va.dget, hlk, hdl]
            | some y =>
              rw [hq] at hlk
              simp at hlk
              simp [isD, h1, Va.dget, hlk, hdl]
          · simp [-List.map_map, hv1]
        · rcases List.mem_append.mp hr2 with hr2 | hr2
          · exact hlo t ht r hr2
          · have : r = (len, n) := by simpa using hr2
            rw [this]; exact hc t ht
    · have ⟨t, ht, hlt⟩ : ∃ t, lo = some t ∧ ¬ len ≤ t := by
        cases lo with
        | none => exact absurd (fun t h => by cases h) hc
        | some t => exact ⟨t, rfl, fun h => hc fun t' e => by cases e; exact h⟩
      subst ht
      refine .inl ⟨TM L g rows, by simp [shV, loV, Va.isN, hlt], g, rows, val, last, f, _, a, b, c, d, hr, s, fun t' e => ⟨hlo t' e, fun q hq => ?_⟩, fun e => (by cases e), rfl, rfl⟩
      cases e
      have := sc.st.lo q hq
      omega
theorem taken_run {W : Wb} (gd : W.Good) (hf : Few W) (lo : Option Int) (L : LH) : ∃ g rows, Run W (zerosW W) rows g ∧ (∃ val last f, St W g val last f) ∧ (∀ t, lo = some t → (∀ r ∈ rows, r.1 ≤ t) ∧ ∀ q, arB.pth (resid W g) W.b q W.e → t < acost q) ∧ (lo = none → ∀ q, ¬ arB.pth (resid W g) W.b q W.e) ∧
    F_taken [.d W.d, .d (loV lo)] L = .ok (.d (.tuple [.list ((sortP (gather rows [])).map Row.d), .list (g.map PyData.int)])) L := by
  have hz := sizeLine_eq
  have glen := gd.len
  have h0 := tm_0 L (zerosW W) []
  have zs := zeros_st gd
  obtain ⟨v, hv1, hv2⟩ := short_next gd h0 zs.wd.1 zs.pt
  obtain ⟨env', L', e1, g, rows, val, last, f, v', a, b, c, d, hr, s, k1, k2, rfl, rfl⟩ := while_inv (t := tAndF (tVal (eOp opNotN (eVar 4) (eC .none))) (tOrF (tVal (eOp opIsN (eVar 1) (eC .none))) (tVal (eOp opLe (eOp opIx (eVar 4) (eC (.int 0))) (eVar 1))))) (body := b_taken_2) (I := TKI W lo L) (J := TKJ W lo L) (fun k env M h => taken_body gd hf h) (n := (wsum W - 0).toNat) (env := [some (.d W.d), some (.d (loV lo)), some (.loc L.length), some (.loc (L.length + 1)), some (.d v), none, none, none, none]) (L := TM L (zerosW W) [])
    ⟨zerosW W, [], 0, 0, _, v, _, _, _, _, .nil, zs, rfl, fun t _ r hr => (by cases hr), hv2, rfl, rfl⟩
  refine ⟨g, rows, hr, ⟨val, last, f, s⟩, k1, k2, ?_⟩
  have h1 := tm_1 L g rows
  have hg := tm_0 L g rows
  refine fn_out rfl ?_ (w := .tup [.d (.list ((sortP (gather rows [])).map Row.d)), .loc L.length]) (L' := TM L g rows) ?_ (by unfold TM; exact outV_app _ _ _)
  · refine seq_nx (env1 := [some (.d W.d), some (.d (loV lo)), some (.loc L.length), none, none, none, none, none, none]) (L1 := L ++ [some (frO (zerosW W))]) ?_ ?_
    · rw [frO_rep]
      have z1 : 1 ≤ sizeLine := by omega
      have : W.rs.length ≤ sizeLine := by omega
      have h63 : (W.rs.length : Int) < 9223372036854775808 := by omega
      simp [Wb.d, Va.items, z1, this, h63]
    refine seq_nx (env1 := [some (.d W.d), some (.d (loV lo)), some (.loc L.length), some (.loc (L.length + 1)), none, none, none, none, none]) (L1 := TM L (zerosW W) []) (by simp [fD0, TM, gather]) ?_
    refine seq_nx (env1 := [some (.d W.d), some (.d (loV lo)), some (.loc L.length), some (.loc (L.length + 1)), some (.d v), none, none, none, none]) (L1 := TM L (zerosW W) []) (by simp [hv1]) ?_
    refine seq_nx e1 ?_
    have z2 : 2 ≤ sizeLine := by omega
    have hk := intKvs_map (gather rows [])
    obtain ⟨S, hS⟩ : ∃ S, S = gather rows [] := ⟨_, rfl⟩
    rw [← hS] at h1 hk ⊢
    simp only [dInt] at h1
    have hm : (sortP S).map (fun q : Int × Int => PyData.tuple [.int q.1, .int q.2]) = (sortP S).map Row.d := rfl
    simp [-List.map_map, fSortIt, h1, hk, z2, datas, hm]
  · have e : settle (TM L g rows) L.length 8 (.loc L.length) = some (.d (.list (g.map PyData.int))) := by
      rw [settle_loc, if_neg (by omega), hg]
      have : frO g = .lst ((g.map PyData.int).map Va.d) := by unfold frO; rw [List.map_map]; rfl
      rw [this]
      simp only [settleO_d]
    unfold settle
    simp only [mapO, settle_d, e, u_mkTup, datas, Option.map_some]
theorem ch_ex {W : Wb} (gd : W.Good) (hf : Few W) : ∃ l, IsCh W l := by
  obtain ⟨g, rows, h1, _, _, h2, _⟩ := taken_run gd hf none []
  exact ⟨_, sortP_ch h1 (h2 rfl)⟩
theorem found_chains_run {W : Wb} (gd : W.Good) (hf : Few W) {l : List Row} (hl : IsCh W l) (L : LH) : F_found_chains [.d W.d] L = .ok (.d (.list (l.map Row.d))) L := by
  obtain ⟨g, rows, h1, _, _, h2, h3⟩ := taken_run gd hf none L
  have e := ch_uniq gd hl (sortP_ch h1 (h2 rfl))
  rw [← e] at h3
  simp only [loV] at h3
  refine fn_rt (L' := L) rfl ?_
  simp [-List.map_map, b_found_chains, h3]
end L2.HW
namespace L2.HW
open PySem PySem.Spec PyProof.Rows
end L2.HW
namespace L2.HW
open PySem PySem.Spec PyProof.Rows
end L2.HW
namespace L2.HW
open PySem PySem.Spec PyProof.Rows
theorem minOf_least {α : Type} [DecidableEq α] [PySem.W.DatumOrd α] {M : α} (hM : PySem.W.DatumOrd.lt M M = false) : ∀ (xs : List α) (a : α), (a = M ∨ M ∈ xs) → (a = M ∨ PySem.W.DatumOrd.lt M a = true ∧ PySem.W.DatumOrd.lt a M = false) → (∀ y ∈ xs, y = M ∨ PySem.W.DatumOrd.lt M y = true ∧ PySem.W.DatumOrd.lt y M = false) → PySem.W.minOf a xs = M := by
  intro xs
  unfold PySem.W.minOf
  induction xs with
  | nil =>
    intro a h _ _
    rcases h with h | h
    · exact h
    · cases h
  | cons y xs ih =>
    intro a h1 h2 h3
    rw [List.foldl_cons]
    have hy := h3 y List.mem_cons_self
    refine ih _ ?_ ?_ fun z hz => h3 z (List.mem_cons_of_mem _ hz)
    · rcases h1 with rfl | h1
      · rcases hy with rfl | ⟨_, hy⟩
        · rw [hM]; exact .inl rfl
        · rw [hy]; exact .inl rfl
      · rcases List.mem_cons.mp h1 with rfl | h1
        · rcases h2 with rfl | ⟨h2, _⟩
          · rw [hM]; exact .inl rfl
          · rw [h2]; exact .inl rfl
        · exact .inr h1
    · split
      · exact hy
      · exact h2
end L2.HW
namespace L2.HW
open PySem PySem.Spec PyProof.Rows
def LM (L : LH) (fr : List Int) (E : List PyData) (pre : List Hw) : LH := L ++ [some (frO fr), some (.lst (E.map Va.d)), some (.lst ((pre.map Hw.d).map Va.d))]
end L2.HW
namespace L2.HW
open PySem PySem.Spec PyProof.Rows
end L2.HW
namespace L2.HW
open PySem PySem.Spec PyProof.Rows
def cf (C : List Int) (x : Int) : Int := C.getD x.toNat 0
end L2.HW
namespace L2.HW
open PySem PySem.Spec PyProof.Rows
end L2.HW
namespace L2.HW
open PySem PySem.Spec PyProof.Rows
end L2.HW
namespace L2.HW
open PySem PySem.Spec PyProof.Rows
end L2.HW
namespace L2.HW
open PySem PySem.Spec PyProof.Rows
end L2.HW
namespace L2.HW
open PySem PySem.Spec PyProof.Rows
end L2.HW
namespace L2.HW
open PySem PySem.Spec PyProof.Rows
end L2.HW
namespace L2.HW
open PySem PySem.Spec PyProof.Rows
theorem rds_of {m e : Int} : ∀ {rs : List PyData}, (∀ r ∈ rs, GoodRoad m e r) → ∃ ks : List Rd, rs = ks.map Rd.d ∧ ∀ k ∈ ks, Rd.Good m e k ∧ k.l ≤ 5 ∧ k.w ≤ 3
  | [], _ => ⟨[], rfl, by simp⟩
  | r :: rs, h => by
    obtain ⟨ks, rfl, hk⟩ := rds_of fun x hx => h x (List.mem_cons_of_mem _ hx)
    obtain ⟨u, v, l, w, rfl, h1, h2, h3, h4, h5, h6, h7, h8, h9, h10⟩ := h r List.mem_cons_self
    refine ⟨⟨u, v, l, w⟩ :: ks, rfl, fun k hk' => ?_⟩
    rcases List.mem_cons.mp hk' with rfl | hk'
    · exact ⟨⟨h1, h2, h3, h4, h5, fun z => h6 z.symm, h7, h9⟩, h8, h10⟩
    · exact hk k hk'
theorem web_of {top : Int} {w : PyData} (h : GoodWeb top w) (ht : top ≤ 1000) : ∃ W : Wb, w = W.d ∧ W.Good ∧ W.m ≤ top ∧ W.rs.length ≤ (2 * W.m + 1).toNat ∧ W.Sm 5 := by
  obtain ⟨m, b, e, rs, rfl, h0, h1, h2, h3, h4, h5, h6, h7, h8⟩ := h
  obtain ⟨ks, rfl, hk⟩ := rds_of h8
  rw [List.length_map] at h7
  exact ⟨⟨m, b, e, ks⟩, rfl, ⟨h0, by show m ≤ 1000; omega, h2, h3, h4, h5, h6, fun r hr => (hk r hr).1, by show ks.length ≤ 10000; omega⟩, h1, h7, fun r hr => ⟨(hk r hr).2.1, by have := (hk r hr).2.2; omega⟩⟩
end L2.HW
namespace L2.HW
open PySem PySem.Spec PyProof.Rows
structure Fin03 (W : Wb) (l : List Row) : Prop where
  gd : W.Good
  few : Few W
  ch : IsCh W l
  sm : ∀ r ∈ W.rs, small r.l ∧ small r.w
  rows : ∀ r ∈ l, small r.1 ∧ small r.2
  len : l.length ≤ 10000
  wid : ∀ r ∈ l, r.2 ≤ 10000
theorem ch_few {W : Wb} (gd : W.Good) {l : List Row} (h : IsCh W l) : (l.length : Int) ≤ wsum W := by
  obtain ⟨rows, g, h1, _, h3, _⟩ := h
  obtain ⟨val, last, f, s, _, h2, _⟩ := run_st gd h1 (zeros_st gd)
  have h5 := val_le gd s
  have hq := gather_mem (P := fun _ => True) (ks := []) (rows := rows) (by simp) (fun x hx => ⟨trivial, (run_lens gd h1 (zeros_st gd) x hx).2⟩)
  have h6 := sum_ge_len (l := gather rows []) fun x hx => (hq x hx).2
  rw [gather_wsum rows [] (by simp)] at h6
  have h7 := h3.length_eq
  simp at h6
  omega
theorem wsum_le {W : Wb} {B : Int} (hs : W.Sm B) : wsum W ≤ W.rs.length * B := by
  unfold wsum
  have : ∀ l : List Rd, (∀ r ∈ l, r.w ≤ B) → (l.map Rd.w).sum ≤ l.length * B := fun l => by
    induction l with
    | nil => intro _; simp
    | cons a l ih =>
      intro h
      have h1 := h a List.mem_cons_self
      have h2 := ih fun x hx => h x (List.mem_cons_of_mem _ hx)
      have e3 : (((l.length + 1 : Nat) : Int)) * B = l.length * B + B := by
        rw [Int.natCast_add, Int.add_mul]; simp
      rw [List.map_cons, List.sum_cons, List.length_cons, e3]
      omega
  exact this _ fun r hr => (hs r hr).2
theorem fin03_of {W : Wb} (gd : W.Good) (hl : W.rs.length ≤ 100) (hs : W.Sm 100) : ∃ l, Fin03 W l := by
  have h1 := wsum_le hs
  have hw : wsum W ≤ 10000 := by omega
  have few := few_of gd (by omega)
  obtain ⟨l, hc⟩ := ch_ex gd few
  have h2 := ch_few gd hc
  have h3 := ch_len gd hs (by omega) hc
  have h4 := ch_pos gd hc
  refine ⟨l, gd, few, hc, fun r hr => ?_, fun r hr => ?_, by omega, fun r hr => by have := h3 r hr; omega⟩
  · have := hs r hr
    have := (gd.rs r hr).l1
    have := (gd.rs r hr).w1
    unfold small
    omega
  · have := h3 r hr
    have := h4 r hr
    unfold small
    omega
end L2.HW
namespace L2.HW
open PySem PySem.Spec PyProof.Rows
def shortR (l h : List Row) : Option Row := (l.find? fun r => decide (bro h r.1 < bro l r.1)).map fun r => (r.1, bro l r.1 - bro h r.1)
end L2.HW
namespace L2.HW
open PySem PySem.Spec PyProof.Rows
structure Fin21 (W : Wb) (l : List Row) (h : List Hw) : Prop where
  gd : W.Good
  few : Few W
  ch : IsCh W l
  hur : Hur W (frW W) h
  sm : W.Sm (2 ^ 100)
  rows : ∀ r ∈ l, small r.1 ∧ small r.2 ∧ r.1 < 2 ^ 190
  len : l.length < 16000000
def shD : Option Row → PyData
  | none => .none
  | some r => r.d
section
variable {W : Wb} {l : List Row} {h : List Hw} (F : Fin21 W l h)
include F
theorem f21_hr : ∀ r ∈ rowsH h, small r.1 ∧ small r.2 ∧ 1 ≤ r.1 ∧ 1 ≤ r.2 := rowsH_ok F.gd F.sm (by omega) (by omega) F.hur
theorem f21_hl : (rowsH h).length ≤ 16000000 := by
  have := hur_few F.gd F.hur
  have := F.gd.len
  rw [List.length_map]
  omega
theorem f21_at : ∀ r ∈ l, 0 ≤ r.1 ∧ r.1.natAbs < 2 ^ 202 := fun r hr => by
  have h1 := F.rows r hr
  have h2 := ch_pos F.gd F.ch r hr
  omega
theorem row_lt (a y : Row) (h : a.1 < y.1) : PySem.W.DatumOrd.lt a y = true ∧ PySem.W.DatumOrd.lt y a = false := by
  show (if a.1 = y.1 then _ else decide (a.1 < y.1)) = true ∧ (if y.1 = a.1 then _ else decide (y.1 < a.1)) = false
  rw [if_neg (by omega), if_neg (by omega)]
  exact ⟨decide_eq_true h, decide_eq_false (by omega)⟩
theorem found_short_run (L : LH) : F_found_short [.d W.d] L = .ok (.d (shD (shortR l (rowsH h)))) L := by
  have hz := sizeLine_eq
  have len := F.len
  have asc := ch_asc F.gd F.ch
  have e1 := found_chains_run F.gd F.few F.ch L
  have e2 := found_rows_run F.gd F.hur L
  have b1 : ∀ r ∈ l, F_brought [.d (.list (l.map Row.d)), .d (.int r.1)] L = .ok (.d (.int (bro l r.1))) L := fun r hr => brought_run (fun x hx => ⟨(F.rows x hx).1, (F.rows x hx).2.1⟩) (f21_at F r hr).2 (by omega) L
  have b2 : ∀ r ∈ l, F_brought [.d (.list ((rowsH h).map Row.d)), .d (.int r.1)] L = .ok (.d (.int (bro (rowsH h) r.1))) L := fun r hr => brought_run (fun x hx => ⟨(f21_hr F x hx).1, (f21_hr F x hx).2.1⟩) (f21_at F r hr).2 (f21_hl F) L
  have z2 : 2 ≤ sizeLine := by omega
  obtain ⟨R, hR⟩ : ∃ R, R = l.map Row.d := ⟨_, rfl⟩
  obtain ⟨S, hS⟩ : ∃ S, S = (rowsH h).map Row.d := ⟨_, rfl⟩
  rw [← hR] at e1 b1
  rw [← hS] at e2 b2
  have src : srcV (eVar 1) [some (.d W.d), some (.d (.list R)), some (.d (.list S)), none, none, none, none] L = .ok (l.map (fun r : Row => Va.d r.d), none) L := by
    rw [hR]; simp [srcOf, Function.comp_def]
  have c1 := fComp_tym (s := srcV (eVar 1)) (g := tTupT 2 (tgCons (tN 4) (tgCons (tN 5) tgNil))) (f := eTup (aCons (eVar 4) (aCons (eOp opSub (eCall F_brought (aCons (eVar 1) (aCons (eVar 4) aNil))) (eCall F_brought (aCons (eVar 2) (aCons (eVar 4) aNil)))) aNil))) (vs := [4, 5]) (env := [some (.d W.d), some (.d (.list R)), some (.d (.list S)), none, none, none, none]) (L := L) (fun r : Row => Va.d r.d) (fun r => Va.d (Row.d (r.1, bro l r.1 - bro (rowsH h) r.1))) l src (by omega) (by
    intro r hr
    have k1 := b1 r hr
    have k2 := b2 r hr
    exact ⟨[some (.d W.d), some (.d (.list R)), some (.d (.list S)), none, some (.d (.int r.1)), some (.d (.int r.2)), none], by simp [wipeE, Row.d], by simp [k1, k2, z2, Row.d]⟩)
  obtain ⟨D, hD⟩ : ∃ D, D = l.map fun r : Row => ((r.1, bro l r.1 - bro (rowsH h) r.1) : Row) := ⟨_, rfl⟩
  have hD2 : l.map (fun r => Va.d (Row.d (r.1, bro l r.1 - bro (rowsH h) r.1))) = (D.map Row.d).map Va.d := by rw [hD, List.map_map, List.map_map]; rfl
  rw [hD2] at c1
  have c2 := fComp_ty (s := srcV (eVar 3)) (g := tN 6) (t := tVal (eOp opGt (eOp opIx (eVar 6) (eC (.int 1))) (eC (.int 0)))) (f := eVar 6) (vs := [6]) (env := [some (.d W.d), some (.d (.list R)), some (.d (.list S)), some (.d (.list (D.map Row.d))), none, none, none]) (L := L) (fun r : Row => Va.d r.d) (fun r => decide (0 < r.2)) (fun r => Va.d r.d) D (by simp [srcOf, Function.comp_def]) (by rw [hD, List.length_map]; omega) (by
    intro r _
    exact ⟨_, rfl, by simp [wipeE, Row.d, opGt], fun _ => by simp [wipeE]⟩)
  have hfd : (D.filter fun r => decide (0 < r.2)).head? = shortR l (rowsH h) := by
    rw [List.head?_filter, hD, List.find?_map]
    have hp : ((fun r : Row => decide (0 < r.2)) ∘ fun r : Row => ((r.1, bro l r.1 - bro (rowsH h) r.1) : Row)) = fun r => decide (bro (rowsH h) r.1 < bro l r.1) := by
      funext r
      show decide (0 < bro l r.1 - bro (rowsH h) r.1) = decide (bro (rowsH h) r.1 < bro l r.1)
      by_cases c : bro (rowsH h) r.1 < bro l r.1
      · rw [decide_eq_true c, decide_eq_true (by omega)]
      · rw [decide_eq_false c, decide_eq_false (by omega)]
    rw [hp]
    rfl
  have hasc : (D.filter fun r => decide (0 < r.2)).Pairwise fun x y => x.1 < y.1 := by
    refine List.Pairwise.filter _ ?_
    rw [hD]
    exact List.pairwise_map.mpr asc
  refine fn_rt (L' := L) rfl ?_
  refine seq_nx (env1 := [some (.d W.d), some (.d (.list R)), some (.d (.list S)), none, none, none, none]) (L1 := L) (by simp [e1, e2, z2]) ?_
  refine seq_nx (env1 := [some (.d W.d), some (.d (.list R)), some (.d (.list S)), some (.d (.list (D.map Row.d))), none, none, none]) (L1 := L) ?_ ?_
  · rw [u_sSet, u_eDat, c1]
    simp
  · obtain ⟨E, hE⟩ : ∃ E, E = D.filter fun r => decide (0 < r.2) := ⟨_, rfl⟩
    rw [← hE] at c2 hfd hasc
    have c2' : fComp (srcV (eVar 3)) (tN 6) (tVal (eOp opGt (eOp opIx (eVar 6) (eC (.int 1))) (eC (.int 0)))) (eVar 6) [6] [some (.d W.d), some (.d (.list R)), some (.d (.list S)), some (.d (.list (D.map Row.d))), none, none, none] L = .ok (.lst ((E.map Row.d).map Va.d)) L := by rw [c2, List.map_map]; rfl
    rw [u_sRet, u_eMinDef]
    simp only [u_aCons, u_aNil, u_eDat, c2', Res.bind_ok, va_lst, u_eC, one, Va.items, datas_map]
    rw [← hfd]
    cases E with
    | nil => rfl
    | cons a E =>
      simp only [List.map_cons, List.head?_cons]
      have e3 : (a :: E).map Row.d = (a :: E).map PySem.W.Datum.toD := rfl
      have ha : PySem.W.AlikeAll (Row.d a :: E.map Row.d) := by
        have := PySem.W.alikeAll_datum (a :: E)
        exact this
      have hd : PyData.depthAll (Row.d a :: E.map Row.d) ≤ 60 := by
        refine Nat.le_trans (m := 1) (depthAll_le.mpr fun x hx => ?_) (by omega)
        rw [← List.map_cons] at hx
        obtain ⟨p, _, rfl⟩ := List.mem_map.mp hx
        simp [Row.d, PyData.depth, PyData.depthAll]
      have hm : PySem.W.minD (Row.d a) (E.map Row.d) = Row.d a := by
        have : PySem.W.minD (PySem.W.Datum.toD a) (E.map PySem.W.Datum.toD) = PySem.W.Datum.toD (PySem.W.minOf a E) := PySem.W.minD_map a E
        have h2 : PySem.W.minOf a E = a := minOf_least (M := a) (by
          show (if a.1 = a.1 then (decide (a.2 < a.2)) else _) = false
          rw [if_pos rfl]
          exact decide_eq_false (by omega)) E a (.inl rfl) (.inl rfl) fun y hy => .inr (row_lt F a y ((List.pairwise_cons.mp hasc).1 y hy))
        rw [h2] at this
        exact this
      rw [if_pos ⟨ha, hd⟩, hm]
      rfl
theorem short_from_run (L : LH) : F_short_from [.d W.d] L = .ok (.d (shD (shortR l (rowsH h)))) L := by
  have h1 := look_web F.gd L
  have h2 := found_short_run F L
  refine fn_rt (L' := L) rfl ?_
  simp [-List.map_map, b_short_from, h1, h2]
end
end L2.HW
namespace L2.HW
open PySem PySem.Spec PyProof.Rows
section
variable {W : Wb} {l : List Row} {h : List Hw} (F : Fin21 W l h)
include F
theorem f21_hmost {t : Int} (ht : 0 ≤ t) (ht2 : t < 2 ^ 195) (L : LH) : F_hurried_most [.d W.d, .d (.int t)] L = .ok (.d (.int (bro (rowsH h) t))) L := hurried_most_run F.gd F.sm (by omega) (by omega) F.hur ht (by omega) L
end
end L2.HW
namespace L2.HW
open PySem PySem.Spec PyProof.Rows
theorem fin21_of {W : Wb} (gd : W.Good) (few : Few W) (hs : W.Sm (2 ^ 100)) {l : List Row} (hc : IsCh W l) {h : List Hw} (hh : Hur W (frW W) h) : Fin21 W l h := by
  have h1 := ch_len gd hs (by decide) hc
  have h2 := ch_pos gd hc
  have h3 := wsum_le hs
  have h4 := gd.len
  have h5 : (W.rs.length : Int) * 2 ^ 100 ≤ 10000 * 2 ^ 100 := Int.mul_le_mul_of_nonneg_right (by omega) (by decide)
  refine ⟨gd, few, hc, hh, hs, fun r hr => ?_, ?_⟩
  · have k1 := h1 r hr
    have k2 := h2 r hr
    unfold small
    omega
  · obtain ⟨rows, g, q1, _, q3, _⟩ := hc
    have := few _ _ q1
    rw [q3.length_eq]
    exact this
end L2.HW
namespace L2.HW
open PySem PySem.Spec PyProof.Rows
end L2.HW
namespace L2.HW
open PySem PySem.Spec PyProof.Rows
structure Fin81 (W : Wb) (l : List Row) (h : List Hw) : Prop where
  a : Fin03 W l
  b : Fin21 W l h
end L2.HW
namespace L2.HW
open PySem PySem.Spec PyProof.Rows
theorem f81_web {top : Int} {w : PyData} (h : GoodWeb top w) (ht : top ≤ 40) : ∃ W l h, w = W.d ∧ Fin81 W l h ∧ W.Sm 5 := by
  obtain ⟨W, rfl, g, hm, hl, hs⟩ := web_of h (by omega)
  have m2 := g.m2
  obtain ⟨l, F⟩ := fin03_of g (by omega) fun r hr => by have := hs r hr; omega
  obtain ⟨f1, f2⟩ := frW_ok g
  obtain ⟨h, hh⟩ := hur_ex g _ (Nat.le_refl _) f1 f2
  exact ⟨W, l, h, rfl, ⟨F, fin21_of g F.few (fun r hr => by have := hs r hr; omega) F.ch hh⟩, hs⟩
end L2.HW
namespace L2.HW
open PySem PySem.Spec PyProof.Rows
theorem look_web_bad {x : PyData} (hf : fewB x) (hw : webB x = false) (L : LH) : F_look_at_web [.d x] L = .exc "NoWeb" none L := by
  have h := F_is_right_web_eq x hf L
  rw [hw] at h
  simp [F_look_at_web, b_look_at_web, mkFn, h]
theorem look_moment_bad {x : PyData} (h : wholeB x = false) (L : LH) : F_look_at_moment [.d x] L = .exc "NoMoment" none L := by
  simp [F_look_at_moment, b_look_at_moment, mkFn, h]
theorem look_number_bad {x : PyData} (h : fromB 1 x = false) (L : LH) : F_look_at_number [.d x] L = .exc "NoNumber" none L := by
  simp [F_look_at_number, b_look_at_number, mkFn, h]
section
variable {x : PyData} (hf : fewB x) (hw : webB x = false) (y z : Va) (L : LH)
include hf hw
theorem hurried_bad : F_hurried [.d x] L = .exc "NoWeb" none L := by
  have h := look_web_bad hf hw L
  simp [F_hurried, b_hurried, mkFnF, h]
theorem short_from_bad : F_short_from [.d x] L = .exc "NoWeb" none L := by
  have h := look_web_bad hf hw L
  simp [F_short_from, b_short_from, mkFn, h]
theorem hurried_most_bad : F_hurried_most [.d x, y] L = .exc "NoWeb" none L := by
  have h := look_web_bad hf hw L
  simp [F_hurried_most, b_hurried_most, mkFn, h]
theorem hurried_time_bad : F_hurried_time [.d x, y] L = .exc "NoWeb" none L := by
  have h := look_web_bad hf hw L
  simp [F_hurried_time, b_hurried_time, mkFn, h]
end
def words12 : List Str := ["web", "moment", "number", "road", "cut", "shape", "tree", "notroad", "text", "unlike", "value", "error"]
def ten12 : List Str := ["NoWeb", "NoMoment", "NoNumber", "NoRoad", "NoCut", "NoShape", "NotTree", "NotRoad", "NoText", "Unlike", "ValueError", "HasteError"]
def chosenS (F : Str → Bool) : List Str := ((List.zip words12 (ten12.map F)).filter fun p => p.2).map fun p => p.1
def chosen (F : Str → Bool) : List PyData := (chosenS F).map PyData.str
theorem word_gen {w : Va} {F : Str → Bool} (L : LH) (h : ∀ y ∈ ten12, ∀ env : En, env[0]? = some (some w) → eIsE y (eVar 0) env L = .ok (.d (.bool (F y))) L) {W : Str}
    (hw : (chosen F = [] ∧ W = "") ∨ (chosen F = [.str W, .str "value", .str "error"] ∧ cmpOk (.list [.str W, .str "value", .str "error"]) (.list []) = true)) : F_l_word_of [w] L = .ok (.d (.str W)) L := by
  have hz := sizeLine_eq
  have z6 : 3 + 3 ≤ sizeLine := by omega
  have z9 : 6 + 3 ≤ sizeLine := by omega
  have z12 : 9 + 3 ≤ sizeLine := by omega
  have g1 := fun env he => h "NoWeb" (by decide) env he
  have g2 := fun env he => h "NoMoment" (by decide) env he
  have g3 := fun env he => h "NoNumber" (by decide) env he
  have g4 := fun env he => h "NoRoad" (by decide) env he
  have g5 := fun env he => h "NoCut" (by decide) env he
  have g6 := fun env he => h "NoShape" (by decide) env he
  have g7 := fun env he => h "NotTree" (by decide) env he
  have g8 := fun env he => h "NotRoad" (by decide) env he
  have g9 := fun env he => h "NoText" (by decide) env he
  have g10 := fun env he => h "Unlike" (by decide) env he
  have g11 := fun env he => h "ValueError" (by decide) env he
  have g12 := fun env he => h "HasteError" (by decide) env he
  obtain ⟨S, hS⟩ : ∃ S, S = chosen F := ⟨_, rfl⟩
  rw [← hS] at hw
  obtain ⟨ws, hws⟩ : ∃ ws : List PyData, ws = words12.map PyData.str := ⟨_, rfl⟩
  obtain ⟨fs, hfs⟩ : ∃ fs : List PyData, fs = (ten12.map F).map PyData.bool := ⟨_, rfl⟩
  have hfs' : fs = [.bool (F "NoWeb"), .bool (F "NoMoment"), .bool (F "NoNumber"), .bool (F "NoRoad"), .bool (F "NoCut"), .bool (F "NoShape"), .bool (F "NotTree"), .bool (F "NotRoad"), .bool (F "NoText"), .bool (F "Unlike"), .bool (F "ValueError"), .bool (F "HasteError")] := hfs
  have hws' : ws = [.str "web", .str "moment", .str "number", .str "road", .str "cut", .str "shape", .str "tree", .str "notroad", .str "text", .str "unlike", .str "value", .str "error"] := hws
  have cp := fComp_ty (s := srcZ (aCons (eVar 2) (aCons (eVar 1) aNil))) (g := tTupT 2 (tgCons (tN 4) (tgCons (tN 5) tgNil))) (t := tVal (eVar 5)) (f := eVar 4) (vs := [4, 5]) (env := [some w, some (.d (.list fs)), some (.d (.list ws)), none, none, none]) (L := L) (fun p : Str × Bool => Va.d (.tuple [.str p.1, .bool p.2])) (fun p => p.2) (fun p => Va.d (.str p.1)) (List.zip words12 (ten12.map F))
    (by
      simp [srcZ, srcOf, Va.items]
      rw [hws', hfs']
      rfl) (by rw [List.length_zip]; simp [words12, ten12]; omega)
    (fun p _ => ⟨[some w, some (.d (.list fs)), some (.d (.list ws)), none, some (.d (.str p.1)), some (.d (.bool p.2))], by simp [wipeE], by simp, fun _ => by simp⟩)
  have cS : ((List.zip words12 (ten12.map F)).filter (fun p => p.2)).map (fun p => Va.d (.str p.1)) = S.map Va.d := by rw [hS, chosen, chosenS, List.map_map, List.map_map]; rfl
  rw [cS] at cp
  refine fn_rt (L' := L) rfl ?_
  refine seq_nx (env1 := [some w, some (.d (.list (fs.take 3))), none, none, none, none]) (L1 := L) (by simp [-u_eIsE, g1, g2, g3, hfs', sizeLine_eq]) ?_
  refine seq_nx (env1 := [some w, some (.d (.list (fs.take 6))), none, none, none, none]) (L1 := L) (by simp [-u_eIsE, g4, g5, g6, hfs', sizeLine_eq]) ?_
  refine seq_nx (env1 := [some w, some (.d (.list (fs.take 9))), none, none, none, none]) (L1 := L) (by simp [-u_eIsE, g7, g8, g9, hfs', sizeLine_eq]) ?_
  refine seq_nx (env1 := [some w, some (.d (.list fs)), none, none, none, none]) (L1 := L) (by simp [-u_eIsE, g10, g11, g12, hfs', sizeLine_eq]) ?_
  refine seq_nx (env1 := [some w, some (.d (.list fs)), some (.d (.list ws)), none, none, none]) (L1 := L) (by simp [hws', sizeLine_eq]) ?_
  refine seq_nx (env1 := [some w, some (.d (.list fs)), some (.d (.list ws)), some (.d (.list S)), none, none]) (L1 := L) (by
    rw [u_sSet, u_eDat, cp]
    simp) ?_
  have c0 : cmpOk (.list []) (.list []) = true := by decide
  rcases hw with ⟨rfl, rfl⟩ | ⟨rfl, c2⟩
  · simp [eqv_nil, sizeLine_eq, c0]
  · have q : PyData.eqv (.list [.str "value", .str "error"]) (.list [.str "value", .str "error"]) = true := by decide
    have c1 : cmpOk (.list [.str "value", .str "error"]) (.list [.str "value", .str "error"]) = true := cmpOk_of (by decide +kernel) (by decide +kernel)
    have cu : cutA [Va.d (.str W), Va.d (.str "value"), Va.d (.str "error")] (some 1) none = [Va.d (.str "value"), Va.d (.str "error")] := rfl
    simp [eqv_nil, q, c1, c2, cu, sizeLine_eq]
theorem word_exc {c W : Str} (hc : c ∈ ten) (hw : chosenS (fun y => isErr c y || decide (y = "ValueError")) = [W, "value", "error"]) (ck : cmpOk (.list [.str W, .str "value", .str "error"]) (.list []) = true) (L : LH) : F_l_word_of [.exc c none] L = .ok (.d (.str W)) L :=
  word_gen (F := fun y => isErr c y || decide (y = "ValueError")) L (fun y _ env he => by simp [he, hc]) (.inr ⟨by rw [chosen, hw]; rfl, ck⟩)
theorem word_none (L : LH) : F_l_word_of [.d .none] L = .ok (.d (.str "")) L :=
  word_gen (F := fun _ => false) L (fun y _ env he => by simp [he]) (.inl ⟨rfl, rfl⟩)
theorem word_web (L : LH) : F_l_word_of [.exc "NoWeb" none] L = .ok (.d (.str "web")) L := word_exc (by decide) (by decide +kernel) (cmpOk_of (by decide +kernel) (by decide +kernel)) L
theorem word_moment (L : LH) : F_l_word_of [.exc "NoMoment" none] L = .ok (.d (.str "moment")) L := word_exc (by decide) (by decide +kernel) (cmpOk_of (by decide +kernel) (by decide +kernel)) L
theorem word_number (L : LH) : F_l_word_of [.exc "NoNumber" none] L = .ok (.d (.str "number")) L := word_exc (by decide) (by decide +kernel) (cmpOk_of (by decide +kernel) (by decide +kernel)) L
end L2.HW
namespace L2.HW
open PySem PySem.Spec PyProof.Rows
def momB : List PyData := [.none, .int (-1), .bool true, .bool false, .str "0", .tuple [.int 0], .list [.int 0], .int (-100000000000000000000), .str ""]
def numB : List PyData := [.none, .int 0, .int (-1), .bool true, .bool false, .str "1", .tuple [.int 1], .list [.int 1], .int (-100000000000000000000), .str ""]
theorem bad_moments_run (L : LH) : F_l_bad_moments [] L = .ok (.d (.list momB)) L := by
  have hz := sizeLine_eq
  have p : powC 10 20 = true := by decide
  simp [F_l_bad_moments, b_l_bad_moments, mkFn, hz, p, momB]
theorem bad_numbers_run (L : LH) : F_l_bad_numbers [] L = .ok (.d (.list numB)) L := by
  have hz := sizeLine_eq
  have p : powC 10 20 = true := by decide
  simp [F_l_bad_numbers, b_l_bad_numbers, mkFn, hz, p, numB]
theorem momB_bad : ∀ x ∈ momB, wholeB x = false ∧ fine x = true ∧ x.depth ≤ 2 ∧ x.bulk ≤ 10 := by decide +kernel
theorem numB_bad : ∀ x ∈ numB, fromB 1 x = false ∧ fine x = true ∧ x.depth ≤ 2 ∧ x.bulk ≤ 10 := by decide +kernel
theorem show2 {x y : PyData} {a b c d : Nat} (hx : Ok a b x) (hy : Ok c d y) (h1 : a ≤ 30) (h2 : b ≤ 7800) (h3 : c ≤ 30) (h4 : d ≤ 100) : okShow (.list [x, y]) := by
  obtain ⟨x1, x2, x3⟩ := hx
  obtain ⟨y1, y2, y3⟩ := hy
  exact okShow_of (by simp [fine, fineAll, x1, y1]) (by simp [PyData.depth, PyData.depthAll]; omega) (by simp [PyData.bulk, PyData.bulkAll]; omega)
theorem str_same (s : Str) : PyData.eqv (.str s) (.str s) = true := by simp [PyData.eqv]
theorem str_ok (s t : Str) : cmpOk (.str s) (.str t) = true := by simp [cmpOk, twoStr]
theorem asked22_bad {k : Int} {x y : PyData} (hf : fewB x) (hw : webB x = false) (hs : okShow (.list [x, y])) (L : LH) : F_l_asked_v2 [.d (.int k), .d x, .d y] L = .ok (.d (.str "web")) L := by
  have e0 := hurried_bad hf hw L
  have e1 := short_from_bad hf hw L
  have e2 := fun y => hurried_most_bad hf hw y L
  have e3 := fun y => hurried_time_bad hf hw y L
  have wd := word_web L
  have z2 : 2 ≤ sizeLine := by have := sizeLine_eq; omega
  have t1 : ("NoWeb" : Str) ∈ ten := by decide
  refine fn_rt (L' := L) rfl ?_
  generalize hS : (PyData.list [x, y]).shown = S
  have sm := str_same S
  have so := str_ok S S
  refine seq_nx (env1 := [some (.d (.int k)), some (.d x), some (.d y), some (.d (.str S)), none, none]) (L1 := L) (by simp [hs, z2, hS]) ?_
  refine seq_nx (env1 := [some (.d (.int k)), some (.d x), some (.d y), some (.d (.str S)), some (.d .none), none]) (L1 := L) (by simp) ?_
  refine seq_nx (env1 := [some (.d (.int k)), some (.d x), some (.d y), some (.d (.str S)), some (.exc "NoWeb" none), none]) (L1 := L) (by
    by_cases k0 : k = 0
    · subst k0; simp [e0, t1, eqv_int]
    · by_cases k1 : k = 1
      · subst k1; simp [e1, t1, eqv_int]
      · by_cases k2 : k = 2
        · subst k2; simp [e2, t1, eqv_int]
        · simp [e3, t1, eqv_int, k0, k1, k2]) ?_
  refine seq_nx (env1 := [some (.d (.int k)), some (.d x), some (.d y), some (.d (.str S)), some (.exc "NoWeb" none), none]) (L1 := L) (by simp [hs, z2, hS, sm, so]) ?_
  simp [wd]
theorem asked22_moment {W : Wb} (g : W.Good) {y : PyData} (hm : wholeB y = false) (hs : okShow (.list [W.d, y])) (L : LH) : F_l_asked_v2 [.d (.int 2), .d W.d, .d y] L = .ok (.d (.str "moment")) L := by
  have e0 := look_web g L
  have e1 := look_moment_bad hm L
  have e2 : F_hurried_most [.d W.d, .d y] L = .exc "NoMoment" none L := by
    simp [F_hurried_most, b_hurried_most, mkFn, e0, e1]
  have wd := word_moment L
  have z2 : 2 ≤ sizeLine := by have := sizeLine_eq; omega
  have t1 : ("NoMoment" : Str) ∈ ten := by decide
  refine fn_rt (L' := L) rfl ?_
  generalize hS : (PyData.list [W.d, y]).shown = S
  have sm := str_same S
  have so := str_ok S S
  refine seq_nx (env1 := [some (.d (.int 2)), some (.d W.d), some (.d y), some (.d (.str S)), none, none]) (L1 := L) (by simp [hs, z2, hS]) ?_
  refine seq_nx (env1 := [some (.d (.int 2)), some (.d W.d), some (.d y), some (.d (.str S)), some (.d .none), none]) (L1 := L) (by simp) ?_
  refine seq_nx (env1 := [some (.d (.int 2)), some (.d W.d), some (.d y), some (.d (.str S)), some (.exc "NoMoment" none), none]) (L1 := L) (by simp [e2, t1, eqv_int]) ?_
  simp [wd, hs, z2, hS, sm, so]
theorem asked22_number {W : Wb} (g : W.Good) {y : PyData} (hm : fromB 1 y = false) (hs : okShow (.list [W.d, y])) (L : LH) : F_l_asked_v2 [.d (.int 3), .d W.d, .d y] L = .ok (.d (.str "number")) L := by
  have e0 := look_web g L
  have e1 := look_number_bad hm L
  have e2 : F_hurried_time [.d W.d, .d y] L = .exc "NoNumber" none L := by
    simp [F_hurried_time, b_hurried_time, mkFn, e0, e1]
  have wd := word_number L
  have z2 : 2 ≤ sizeLine := by have := sizeLine_eq; omega
  have t1 : ("NoNumber" : Str) ∈ ten := by decide
  refine fn_rt (L' := L) rfl ?_
  generalize hS : (PyData.list [W.d, y]).shown = S
  have sm := str_same S
  have so := str_ok S S
  refine seq_nx (env1 := [some (.d (.int 3)), some (.d W.d), some (.d y), some (.d (.str S)), none, none]) (L1 := L) (by simp [hs, z2, hS]) ?_
  refine seq_nx (env1 := [some (.d (.int 3)), some (.d W.d), some (.d y), some (.d (.str S)), some (.d .none), none]) (L1 := L) (by simp) ?_
  refine seq_nx (env1 := [some (.d (.int 3)), some (.d W.d), some (.d y), some (.d (.str S)), some (.exc "NoNumber" none), none]) (L1 := L) (by simp [e2, t1, eqv_int]) ?_
  simp [wd, hs, z2, hS, sm, so]
theorem asked22_fine {W : Wb} {k y : PyData} (hs : okShow (.list [W.d, y])) (L : LH)
    (h : ∀ S, (sIf (tVal (eOp opEq (eVar 0) (eC (.int 0)))) (sExpr (eDat (fCall F_hurried (aCons (eVar 1) aNil)))) (sIf (tVal (eOp opEq (eVar 0) (eC (.int 1)))) (sExpr (eCall F_short_from (aCons (eVar 1) aNil))) (sIf (tVal (eOp opEq (eVar 0) (eC (.int 2)))) (sExpr (eCall F_hurried_most (aCons (eVar 1) (aCons (eVar 2) aNil)))) (sExpr (eCall F_hurried_time (aCons (eVar 1) (aCons (eVar 2) aNil)))))))
      [some (.d k), some (.d W.d), some (.d y), some (.d (.str S)), some (.d .none), none] L = .nx [some (.d k), some (.d W.d), some (.d y), some (.d (.str S)), some (.d .none), none] L) :
    F_l_asked_v2 [.d k, .d W.d, .d y] L = .ok (.d (.str "")) L := by
  have wd := word_none L
  have z2 : 2 ≤ sizeLine := by have := sizeLine_eq; omega
  refine fn_rt (L' := L) rfl ?_
  generalize hS : (PyData.list [W.d, y]).shown = S
  have sm := str_same S
  have so := str_ok S S
  have h := h S
  refine seq_nx (env1 := [some (.d k), some (.d W.d), some (.d y), some (.d (.str S)), none, none]) (L1 := L) (by simp [hs, z2, hS]) ?_
  refine seq_nx (env1 := [some (.d k), some (.d W.d), some (.d y), some (.d (.str S)), some (.d .none), none]) (L1 := L) (by simp) ?_
  refine seq_nx (env1 := [some (.d k), some (.d W.d), some (.d y), some (.d (.str S)), some (.d .none), none]) (L1 := L) (by rw [u_sTry, h]) ?_
  simp [wd, hs, z2, hS, sm, so]
end L2.HW
namespace L2.HW
open PySem PySem.Spec PyProof.Rows
end L2.HW
namespace L2.HW
open PySem PySem.Spec PyProof.Rows
def badOne (x : PyData) : Prop := fine x = true ∧ x.depth ≤ 6 ∧ x.bulk ≤ 100 ∧ webB x = false
instance (x : PyData) : Decidable (badOne x) := by unfold badOne; infer_instance
def goodRoad1 : PyData := .tuple [.int 0, .int 1, .int 1, .int 1]
def odds_a : List PyData := [.int 1, .int 0, .int (-1), .bool true, .none, .str "2", .tuple [.int 2]]
def odds_b : List PyData := [.int 2, .int (-1), .bool true, .none, .str "1", .tuple [.int 1]]
def rd (a b c d : PyData) : PyData := .tuple [a, b, c, d]
def odds_c : List PyData := [.none, .tuple [], .tuple [.int 0, .int 1, .int 1], .tuple [.int 0, .int 1, .int 1, .int 1, .int 1], .list [.int 0, .int 1, .int 1, .int 1], rd (.int 1) (.int 0) (.int 1) (.int 1), rd (.int 0) (.int 0) (.int 1) (.int 1), rd (.int 0) (.int 2) (.int 1) (.int 1), rd (.int (-1)) (.int 1) (.int 1) (.int 1),
  rd (.int 0) (.int 1) (.int 0) (.int 1), rd (.int 0) (.int 1) (.int 1) (.int 0), rd (.int 0) (.int 1) (.int (-1)) (.int 1), rd (.int 0) (.int 1) (.int 1) (.int (-1)), rd (.int 0) (.int 1) (.bool true) (.int 1), rd (.int 0) (.int 1) (.int 1) (.bool true),
  rd (.int 0) (.int (-1)) (.int 1) (.int 1), rd (.int 2) (.int 1) (.int 1) (.int 1), rd (.int 9) (.int 1) (.int 1) (.int 1), rd .none (.int 1) (.int 1) (.int 1), rd (.int 0) (.list [.int 1]) (.int 1) (.int 1),
  rd (.bool false) (.int 1) (.int 1) (.int 1), rd (.int 0) (.bool true) (.int 1) (.int 1), rd (.int 0) (.int 1) .none (.int 1), rd (.int 0) (.int 1) (.int 1) (.str "1"), rd (.int 0) (.int 1) (.tuple [.int 1]) (.int 1)]
theorem bad_a : ∀ o ∈ odds_a, badOne (rd o (.int 0) (.int 1) (.tuple [])) := by decide +kernel
theorem bad_b : ∀ o ∈ odds_b, badOne (rd (.int 2) o (.int 0) (.tuple [])) ∧ badOne (rd (.int 2) (.int 0) o (.tuple [])) := by decide +kernel
theorem bad_c : ∀ o ∈ odds_c, badOne (rd (.int 2) (.int 0) (.int 1) (.tuple [o])) ∧ badOne (rd (.int 2) (.int 0) (.int 1) (.tuple [goodRoad1, o])) ∧ badOne (rd (.int 2) (.int 0) (.int 1) (.tuple [o, goodRoad1])) ∧ badOne (rd (.int 2) (.int 0) (.int 1) (.tuple [goodRoad1, o, goodRoad1])) := by decide +kernel
def bads0 : List PyData := [.none, .int 0, .bool true, .str "", .tuple [], .list [], .tuple [.int 2, .int 0, .int 1], .tuple [.int 2, .int 0, .int 1, .tuple [], .tuple []], .list [.int 2, .int 0, .int 1, .tuple []], rd (.int 2) (.int 0) (.int 1) (.list []), rd (.int 2) (.int 0) (.int 1) .none]
theorem bad_0 : ∀ x ∈ bads0, badOne x := by decide +kernel
def bads1 : List PyData := [rd (.int 2) (.int 0) (.int 0) (.tuple []), rd (.int 2) (.int 1) (.int 1) (.tuple [goodRoad1]), rd (.int 3) (.bool false) (.int 1) (.tuple []), rd (.int 3) (.int 2) (.bool false) (.tuple [])]
theorem bad_1 : ∀ x ∈ bads1, badOne x := by decide +kernel
def BadI (L : LH) (odds : List PyData) (mx : Nat) (ws : List Va) (env : En) (M : LH) : Prop := ∃ (os : List PyData) (g : LH) (xs : List PyData) (a b c : Option Va), ws = os.map Va.d ∧ (∀ o ∈ os, o ∈ odds) ∧ env = [some (.d goodRoad1), some (.loc (L.length + g.length)), a, b, c] ∧
  M = L ++ g ++ [some (Ob.lst (xs.map Va.d))] ∧ (∀ x ∈ xs, badOne x) ∧ xs.length + 4 * os.length ≤ mx
theorem top_get (L g : LH) (o : Option Ob) : (L ++ g ++ [o])[L.length + g.length]? = some o := by
  rw [List.getElem?_append_right (by simp)]; simp
theorem top_set (L g : LH) (o o' : Option Ob) : (L ++ g ++ [o]).set (L.length + g.length) o' = L ++ g ++ [o'] := by
  rw [List.set_append_right _ _ (by simp)]; simp

theorem bad_step1 (L : LH) (mx : Nat) (hm : mx ≤ 1000) : ∀ w r env M, BadI L odds_a mx (w :: r) env M → ∃ env1 L1, tN 2 w env M = .ok env1 L1 ∧ ∃ env2 L2, (b_l_bad_webs_1 env1 L1 = .nx env2 L2 ∨ b_l_bad_webs_1 env1 L1 = .ct env2 L2) ∧ BadI L odds_a mx r env2 L2 := by
  rintro w r env M ⟨os, g, xs, a, b, c, e1, h1, rfl, rfl, h2, h3⟩
  cases os with
  | nil => cases e1
  | cons o os =>
    cases e1
    simp only [List.length_cons] at h3
    have hz : xs.length < 16777216 := by omega
    refine ⟨_, _, rfl, _, _, .inl ?_, os, g, xs ++ [rd o (.int 0) (.int 1) (.tuple [])], some (.d o), b, c, rfl, fun x hx => h1 x (List.mem_cons_of_mem _ hx), rfl, rfl, fun x hx => ?_, by simp; omega⟩
    · have e := top_get L g (some (Ob.lst (xs.map Va.d)))
      have e2 := top_set L g (some (Ob.lst (xs.map Va.d)))
      simp only [List.append_assoc] at e e2
      simp [b_l_bad_webs_1, e, e2, hz, sizeLine_eq, rd]
    · rcases List.mem_append.mp hx with hx | hx
      · exact h2 x hx
      · have : x = rd o (.int 0) (.int 1) (.tuple []) := by simpa using hx
        rw [this]; exact bad_a o (h1 o List.mem_cons_self)
theorem bad_step2 (L : LH) (mx : Nat) (hm : mx ≤ 1000) : ∀ w r env M, BadI L odds_b mx (w :: r) env M → ∃ env1 L1, tN 3 w env M = .ok env1 L1 ∧ ∃ env2 L2, (b_l_bad_webs_2 env1 L1 = .nx env2 L2 ∨ b_l_bad_webs_2 env1 L1 = .ct env2 L2) ∧ BadI L odds_b mx r env2 L2 := by
  rintro w r env M ⟨os, g, xs, a, b, c, e1, h1, rfl, rfl, h2, h3⟩
  cases os with
  | nil => cases e1
  | cons o os =>
    cases e1
    simp only [List.length_cons] at h3
    have hz : xs.length + 2 ≤ 16777216 := by omega
    refine ⟨_, _, rfl, _, _, .inl ?_, os, g ++ [some (Ob.lst (xs.map Va.d))], xs ++ [rd (.int 2) o (.int 0) (.tuple []), rd (.int 2) (.int 0) o (.tuple [])], a, some (.d o), c, rfl, fun x hx => h1 x (List.mem_cons_of_mem _ hx), rfl, rfl, fun x hx => ?_, by simp; omega⟩
    · have e := top_get L g (some (Ob.lst (xs.map Va.d)))
      simp only [List.append_assoc] at e
      simp [b_l_bad_webs_2, e, hz, sizeLine_eq, rd, Va.items, Nat.add_assoc]
    · rcases List.mem_append.mp hx with hx | hx
      · exact h2 x hx
      · have := bad_b o (h1 o List.mem_cons_self)
        simp only [List.mem_cons, List.not_mem_nil, or_false] at hx
        rcases hx with rfl | rfl
        · exact this.1
        · exact this.2
theorem bad_step3 (L : LH) (mx : Nat) (hm : mx ≤ 1000) : ∀ w r env M, BadI L odds_c mx (w :: r) env M → ∃ env1 L1, tN 3 w env M = .ok env1 L1 ∧ ∃ env2 L2, (b_l_bad_webs_3 env1 L1 = .nx env2 L2 ∨ b_l_bad_webs_3 env1 L1 = .ct env2 L2) ∧ BadI L odds_c mx r env2 L2 := by
  rintro w r env M ⟨os, g, xs, a, b, c, e1, h1, rfl, rfl, h2, h3⟩
  cases os with
  | nil => cases e1
  | cons o os =>
    cases e1
    simp only [List.length_cons] at h3
    have hz : xs.length + 3 ≤ 16777216 := by omega
    have hz2 : xs.length + 3 < 16777216 := by omega
    refine ⟨_, _, rfl, _, _, .inl ?_, os, g ++ [some (Ob.lst (xs.map Va.d))], xs ++ [rd (.int 2) (.int 0) (.int 1) (.tuple [o]), rd (.int 2) (.int 0) (.int 1) (.tuple [goodRoad1, o]), rd (.int 2) (.int 0) (.int 1) (.tuple [o, goodRoad1]), rd (.int 2) (.int 0) (.int 1) (.tuple [goodRoad1, o, goodRoad1])], a, some (.d o), c, rfl, fun x hx => h1 x (List.mem_cons_of_mem _ hx), rfl, rfl, fun x hx => ?_, by simp; omega⟩
    · have e := top_get L g (some (Ob.lst (xs.map Va.d)))
      simp only [List.append_assoc] at e
      have e3 := top_get L (g ++ [some (Ob.lst (xs.map Va.d))]) (some (Ob.lst ((xs ++ [rd (.int 2) (.int 0) (.int 1) (.tuple [o]), rd (.int 2) (.int 0) (.int 1) (.tuple [goodRoad1, o]), rd (.int 2) (.int 0) (.int 1) (.tuple [o, goodRoad1])]).map Va.d)))
      have e4 := top_set L (g ++ [some (Ob.lst (xs.map Va.d))]) (some (Ob.lst ((xs ++ [rd (.int 2) (.int 0) (.int 1) (.tuple [o]), rd (.int 2) (.int 0) (.int 1) (.tuple [goodRoad1, o]), rd (.int 2) (.int 0) (.int 1) (.tuple [o, goodRoad1])]).map Va.d)))
      simp [rd] at e3 e4
      simp [b_l_bad_webs_3, e, hz, hz2, sizeLine_eq, rd, Va.items, Nat.add_assoc, e3, e4]
    · rcases List.mem_append.mp hx with hx | hx
      · exact h2 x hx
      · have := bad_c o (h1 o List.mem_cons_self)
        simp only [List.mem_cons, List.not_mem_nil, or_false] at hx
        rcases hx with rfl | rfl | rfl | rfl
        · exact this.1
        · exact this.2.1
        · exact this.2.2.1
        · exact this.2.2.2

theorem settle_top (L g : LH) (xs : List PyData) : settle (L ++ (g ++ [some (Ob.lst (xs.map Va.d))])) L.length 9 (.loc (L.length + g.length)) = some (.d (.list xs)) := by
  rw [settle_loc, if_neg (by omega), ← List.append_assoc, top_get]
  simp
theorem bads_ex (L : LH) : ∃ xs, F_l_bad_webs [] L = .ok (.d (.list xs)) L ∧ xs.length ≤ 1000 ∧ ∀ x ∈ xs, badOne x := by
  obtain ⟨env1, M1, e1, os, g, xs, a, b, c, z1, -, rfl, rfl, h2, h3⟩ := forL_inv (I := BadI L odds_a 60) (odds_a.map Va.d) [some (.d goodRoad1), some (.loc L.length), none, none, none] (L ++ [some (Ob.lst (bads0.map Va.d))])
    ⟨odds_a, [], bads0, none, none, none, rfl, fun _ h => h, rfl, by simp, bad_0, by decide⟩ (bad_step1 L 60 (by omega))
  obtain rfl : os = [] := by cases os with | nil => rfl | cons _ _ => cases z1
  simp only [List.length_nil] at h3
  obtain ⟨env2, M2, e2, os, g2, xs2, a2, b2, c2, z1, -, rfl, rfl, k2, k3⟩ := forL_inv (I := BadI L odds_b 100) (odds_b.map Va.d) [some (.d goodRoad1), some (.loc (L.length + g.length)), a, b, c] (L ++ g ++ [some (Ob.lst (xs.map Va.d))])
    ⟨odds_b, g, xs, a, b, c, rfl, fun _ h => h, rfl, rfl, h2, by have : odds_b.length = 6 := rfl; omega⟩ (bad_step2 L 100 (by omega))
  obtain rfl : os = [] := by cases os with | nil => rfl | cons _ _ => cases z1
  simp only [List.length_nil] at k3
  obtain ⟨env3, M3, e3, os, g3, xs3, a3, b3, c3, z1, -, rfl, rfl, m2, m3⟩ := forL_inv (I := BadI L odds_c 300) (odds_c.map Va.d) [some (.d goodRoad1), some (.loc (L.length + (g2 ++ [some (Ob.lst (xs2.map Va.d))]).length)), a2, b2, some (.d (.list (odds_c.take 20)))]
    (L ++ (g2 ++ [some (Ob.lst (xs2.map Va.d))]) ++ [some (Ob.lst ((xs2 ++ bads1).map Va.d))])
    ⟨odds_c, g2 ++ [some (Ob.lst (xs2.map Va.d))], xs2 ++ bads1, a2, b2, _, rfl, fun _ h => h, rfl, rfl, fun x hx => (List.mem_append.mp hx).elim (k2 x) (bad_1 x), by
      have : odds_c.length = 25 := rfl
      have : bads1.length = 4 := rfl
      rw [List.length_append]; omega⟩ (bad_step3 L 300 (by omega))
  obtain rfl : os = [] := by cases os with | nil => rfl | cons _ _ => cases z1
  refine ⟨xs3, ?_, by omega, m2⟩
  have hz : xs2.length + 4 ≤ 16777216 := by omega
  have t1 := top_get L g2 (some (Ob.lst (xs2.map Va.d)))
  have t3 := settle_top L g3 xs3
  simp only [List.append_assoc] at e1 e2 e3 t1
  simp [odds_a, odds_b, odds_c, bads0, bads1, rd, goodRoad1, Nat.add_assoc] at e1 e2 e3
  simp [F_l_bad_webs, b_l_bad_webs, mkFn, sizeLine_eq, sFor, srcOf, lockL, openL, e1, e2, e3, t1, t3, hz, Va.items, Nat.add_assoc]
end L2.HW
namespace L2.HW
open PySem PySem.Spec PyProof.Rows
def wordsN (w : Str) (n : Nat) : PyData := .list (List.replicate n (.str w))
theorem words_eq (w : Str) (n : Nat) : PyData.eqv (wordsN w n) (wordsN w n) = true := by
  have h : ∀ n, PyData.eqvAll (List.replicate n (PyData.str w)) (List.replicate n (PyData.str w)) = true := fun n => by
    induction n with
    | zero => rfl
    | succ n ih => simp [List.replicate_succ, PyData.eqvAll, ih, PyData.eqv]
  simp [wordsN, PyData.eqv, h n]
theorem int_ok (i : Int) (h : i.natAbs < 1000) : Ok 0 1 (.int i) := by
  have := log_of (x := i) (k := 10) (by omega) (by omega)
  exact ⟨by simp [fine]; omega, by simp [PyData.depth], by simp [PyData.bulk]⟩
theorem k22_b1 {x : PyData} (h : badOne x) (L : LH) {x0 x1 x2 x4 x5 : Option Va} : b_law_k22_1 [x0, x1, x2, some (.d x), x4, x5] L = .nx [x0, x1, x2, some (.d x), some (.d (wordsN "web" 4)), x5] L := by
  obtain ⟨h1, h2, h3, h4⟩ := h
  have ox : Ok 6 100 x := ⟨h1, h2, h3⟩
  have hf : fewB x := Ok.few ox (by omega)
  have hz := sizeLine_eq
  have s3 := show2 ox (int_ok 3 (by omega)) (by omega) (by omega) (by omega) (by omega)
  have sn := show2 ox (y := .none) (c := 0) (d := 1) ⟨by decide, by decide, by decide⟩ (by omega) (by omega) (by omega) (by omega)
  have a := fun k : Int => asked22_bad (k := k) hf h4 s3 L
  have b := fun k : Int => asked22_bad (k := k) hf h4 sn L
  have c := fComp_tym (s := srcR1 (aCons (eC (.int 4)) aNil)) (g := tN 5) (f := eCall F_l_asked_v2 (aCons (eVar 5) (aCons (eVar 3) (aCons (eC (.int 3)) aNil)))) (vs := [5]) (env := [x0, x1, x2, some (.d x), x4, x5]) (L := L) (fun i : Nat => Va.d (.int (i : Int))) (fun i => Va.d (.str "web")) (List.range 4) (srcR1_nat (n := 4) (by simp) (by omega)) (by rw [List.length_range]; omega) (fun i _ => ⟨[x0, x1, x2, some (.d x), x4, some (.d (.int i))], by simp [wipeE], by simp [a]⟩)
  have e6 := words_eq "web" 6
  have c6 : cmpOk (wordsN "web" 6) (wordsN "web" 6) = true := cmpOk_of (by decide +kernel) (by decide +kernel)
  refine seq_nx (env1 := [x0, x1, x2, some (.d x), some (.d (wordsN "web" 4)), x5]) (L1 := L) (by
    rw [u_sSet, u_eDat, c]
    rfl) ?_
  simp [wordsN, List.replicate_succ] at e6 c6
  have r6 : ∀ y : PyData, rep 6 [y] = [y, y, y, y, y, y] := fun _ => rfl
  simp [wordsN, List.replicate_succ, b, hz, e6, c6, r6]
theorem asked22_0 {W : Wb} {l : List Row} {h : List Hw} (F : Fin81 W l h) (hs : W.Sm 5) (sw : Ok 3 100 W.d) (L : LH) : F_l_asked_v2 [.d (.int 0), .d W.d, .d (.int 0)] L = .ok (.d (.str "")) L := by
  refine asked22_fine (show2 sw (int_ok 0 (by omega)) (by omega) (by omega) (by omega) (by omega)) L fun S => ?_
  have e := hurried_run F.a.gd F.b.hur L
  simp [-List.map_map, e, eqv_int]
theorem asked22_1 {W : Wb} {l : List Row} {h : List Hw} (F : Fin81 W l h) (hs : W.Sm 5) (sw : Ok 3 100 W.d) (L : LH) : F_l_asked_v2 [.d (.int 1), .d W.d, .d (.int 0)] L = .ok (.d (.str "")) L := by
  refine asked22_fine (show2 sw (int_ok 0 (by omega)) (by omega) (by omega) (by omega) (by omega)) L fun S => ?_
  have e := short_from_run F.b L
  simp [-List.map_map, e, eqv_int]
theorem asked22_2 {W : Wb} {l : List Row} {h : List Hw} (F : Fin81 W l h) (hs : W.Sm 5) (sw : Ok 3 100 W.d) (L : LH) : F_l_asked_v2 [.d (.int 2), .d W.d, .d (.int 0)] L = .ok (.d (.str "")) L := by
  refine asked22_fine (show2 sw (int_ok 0 (by omega)) (by omega) (by omega) (by omega) (by omega)) L fun S => ?_
  have e := f21_hmost F.b (t := 0) (by omega) (by omega) L
  simp [-List.map_map, e, eqv_int]
theorem asked22_3 {W : Wb} {l : List Row} {h : List Hw} (F : Fin81 W l h) (hs : W.Sm 5) (sw : Ok 3 100 W.d) (L : LH) : F_l_asked_v2 [.d (.int 3), .d W.d, .d (.int 1)] L = .ok (.d (.str "")) L := by
  refine asked22_fine (show2 sw (int_ok 1 (by omega)) (by omega) (by omega) (by omega) (by omega)) L fun S => ?_
  have e : ∃ z : PyData, F_hurried_time [.d W.d, .d (.int 1)] L = .ok (.d z) L := by
    by_cases hl : h = []
    · exact ⟨_, hurried_time_none F.a.gd hs (by omega) (by omega) F.b.hur hl (by omega) L⟩
    · obtain ⟨t, h1, _⟩ := hurried_time_run F.a.gd hs (by omega) (by omega) F.b.hur hl (n := 1) (by omega) (by omega) L
      exact ⟨_, h1⟩
  obtain ⟨z, e⟩ := e
  simp [-List.map_map, e, eqv_int]
theorem k22_b2 {ns : List Int} {j : Nat} (hj : j < 8) (hl : ns.length ≤ 63) (M : LH) {x2 x3 x4 x5 : Option Va} :
    ∃ env' M', b_law_k22_2 [some (.scr ns), some (.d (.int j)), x2, x3, x4, x5] M = .nx env' M' ∧ ∃ a1 a2 a3 a4 a5, env' = [some (.scr ns), a1, a2, a3, a4, a5] := by
  have hz := sizeLine_eq
  obtain ⟨p, ep⟩ := pile_ex (ns := ns) (k := j) (L := M) (by omega) (by omega) hl
  have hs : M ++ [P1 p] = (M ++ [P1 0]).set M.length (P1 p) := by rw [List.set_append_right _ _ (Nat.le_refl _)]; simp
  have hn : M.length < (M ++ [P1 0]).length := by simp
  obtain ⟨K, hK⟩ : ∃ K, K = M ++ [P1 0] := ⟨_, rfl⟩
  rw [← hK] at hs hn
  obtain ⟨w, p1, ew, gw⟩ := web_ex (L := K) (n := M.length) (p := p) (top := 4) hn (by omega) (by omega)
  have okw : Ok 3 100 w := (gw.ok (by omega)).1.mono (by omega) (by decide)
  obtain ⟨W, l, h, rfl, F, hs5⟩ := f81_web gw (by omega)
  obtain ⟨N, hN⟩ : ∃ N, N = K.set M.length (P1 p1) := ⟨_, rfl⟩
  rw [← hN] at ew
  obtain ⟨bads, eb, lb, hb⟩ := bads_ex N
  obtain ⟨env1, L1, e1, ⟨a3, a4, rfl, rfl⟩, -⟩ := forL_inv (g := tN 3) (body := b_law_k22_1) (I := fun ws env M' => (∃ a3 a4, env = [some (.scr ns), some (.d (.int j)), some (.d W.d), a3, a4, x5] ∧ M' = N) ∧ ∀ w ∈ ws, ∃ x, w = Va.d x ∧ badOne x) (bads.map Va.d) [some (.scr ns), some (.d (.int j)), some (.d W.d), x3, x4, x5] N
    ⟨⟨_, _, rfl, rfl⟩, fun w hw => by
      obtain ⟨x, hx, rfl⟩ := List.mem_map.mp hw
      exact ⟨x, rfl, hb x hx⟩⟩ (by
    rintro t r env M' ⟨⟨a3, a4, rfl, rfl⟩, hw⟩
    obtain ⟨x, rfl, hx⟩ := hw t List.mem_cons_self
    exact ⟨_, _, rfl, _, _, .inl (k22_b1 hx M' (x0 := some (.scr ns)) (x1 := some (.d (.int j))) (x2 := some (.d W.d)) (x4 := a4) (x5 := x5)), ⟨_, _, rfl, rfl⟩, fun w hw' => hw w (List.mem_cons_of_mem _ hw')⟩)
  have bm := bad_moments_run L1
  have bn := bad_numbers_run L1
  have cm := fComp_filter (s := srcV (eCall F_l_bad_moments aNil)) (g := tN 3) (t := tVal (eOp opNe (eCall F_l_asked_v2 (aCons (eC (.int 2)) (aCons (eVar 2) (aCons (eVar 3) aNil)))) (eC (.str "moment")))) (f := eVar 3) (vs := [3]) (env := [some (.scr ns), some (.d (.int j)), some (.d W.d), a3, a4, x5]) (L := L1) (xs := momB) (fun _ => false)
    (by simp [bm, srcOf]) (by simp [momB]; omega) (fun x hx => ⟨_, rfl, by
      obtain ⟨q1, q2, q3, q4⟩ := momB_bad x hx
      have := asked22_moment F.a.gd q1 (show2 okw (c := 2) (d := 10) ⟨q2, q3, q4⟩ (by omega) (by omega) (by omega) (by omega)) L1
      simp [wipeE, this, PyData.eqv], by simp [wipeE]⟩)
  have cn := fComp_filter (s := srcV (eCall F_l_bad_numbers aNil)) (g := tN 3) (t := tVal (eOp opNe (eCall F_l_asked_v2 (aCons (eC (.int 3)) (aCons (eVar 2) (aCons (eVar 3) aNil)))) (eC (.str "number")))) (f := eVar 3) (vs := [3]) (env := [some (.scr ns), some (.d (.int j)), some (.d W.d), a3, a4, x5]) (L := L1) (xs := numB) (fun _ => false)
    (by simp [bn, srcOf]) (by simp [numB]; omega) (fun x hx => ⟨_, rfl, by
      obtain ⟨q1, q2, q3, q4⟩ := numB_bad x hx
      have := asked22_number F.a.gd q1 (show2 okw (c := 2) (d := 10) ⟨q2, q3, q4⟩ (by omega) (by omega) (by omega) (by omega)) L1
      simp [wipeE, this, PyData.eqv], by simp [wipeE]⟩)
  have fl : ∀ xs : List PyData, xs.filter (fun _ => false) = [] := fun xs => by simp
  rw [fl] at cm cn
  have c0 : cmpOk (.list []) (.list []) = true := by decide
  have q0 : PyData.eqv (.list []) (.list []) = true := by decide
  have f0 := asked22_0 F hs5 okw L1
  have f1 := asked22_1 F hs5 okw L1
  have f2 := asked22_2 F hs5 okw L1
  have f3 := asked22_3 F hs5 okw L1
  have e4 := words_eq "" 4
  have c4 : cmpOk (wordsN "" 4) (wordsN "" 4) = true := cmpOk_of (by decide +kernel) (by decide +kernel)
  have r4 : ∀ y : PyData, rep 4 [y] = [y, y, y, y] := fun _ => rfl
  simp only [wordsN, List.replicate_succ, List.replicate_zero] at e4 c4
  refine ⟨[some (.scr ns), some (.d (.int j)), some (.d W.d), a3, some (.d (wordsN "" 4)), x5], L1, ?_, _, _, _, _, _, rfl⟩
  generalize W.d = D at *
  refine seq_nx (env1 := [some (.scr ns), some (.d (.int j)), some (.d D), x3, x4, x5]) (L1 := L1) (by
    rw [← hs] at ew
    simp [ep, fCall, ew]) ?_
  refine seq_nx (for_nx (ws := bads.map Va.d) (by simp [eb, srcOf]) e1) ?_
  refine seq_nx (env1 := [some (.scr ns), some (.d (.int j)), some (.d D), a3, a4, x5]) (L1 := L1) (by
    simp only [u_sIf, u_tVal, u_eOp, u_eDat, cm]
    simp [c0, q0, hz]) ?_
  refine seq_nx (env1 := [some (.scr ns), some (.d (.int j)), some (.d D), a3, a4, x5]) (L1 := L1) (by
    simp only [u_sIf, u_tVal, u_eOp, u_eDat, cn]
    simp [c0, q0, hz]) ?_
  refine seq_nx (env1 := [some (.scr ns), some (.d (.int j)), some (.d D), a3, some (.d (wordsN "" 4)), x5]) (L1 := L1) (by
    simp [f0, f1, f2, f3, hz, wordsN, List.replicate_succ]) ?_
  simp [hz, wordsN, List.replicate_succ, r4, e4, c4]
theorem law_k22 : ∀ ns : List Int, ns.length ≤ 63 → ∃ L, F_law_k22 [.scr ns] [] = .ok (.d (.bool true)) L := by
  intro ns hl
  have outer : ∀ N ≤ 8, ∃ env' L', forL (tN 1) b_law_k22_2 (rngV 0 N) [some (.scr ns), none, none, none, none, none] [] = .nx env' L' := by
    intro N hN
    have loop := forL_inv (g := tN 1) (body := b_law_k22_2) (I := fun ws env M => (∃ a1 a2 a3 a4 a5, env = [some (.scr ns), a1, a2, a3, a4, a5]) ∧ ∀ w ∈ ws, ∃ j : Nat, w = Va.d (.int j) ∧ j < 8) (rngV 0 N) [some (.scr ns), none, none, none, none, none] []
      ⟨⟨_, _, _, _, _, rfl⟩, fun w hw => by
        simp only [rngV, List.mem_map, List.mem_range] at hw
        obtain ⟨j, hj, rfl⟩ := hw
        exact ⟨j, by simp, by omega⟩⟩ ?_
    · obtain ⟨env', L', e, h, _⟩ := loop
      exact ⟨env', L', e⟩
    · rintro w r env M ⟨⟨a1, a2, a3, a4, a5, rfl⟩, hw⟩
      obtain ⟨j, rfl, hj⟩ := hw w List.mem_cons_self
      obtain ⟨env', M', e, h⟩ := k22_b2 hj hl M (x2 := a2) (x3 := a3) (x4 := a4) (x5 := a5)
      exact ⟨_, _, rfl, _, M', .inl e, h, fun w hw' => hw w (List.mem_cons_of_mem _ hw')⟩
  obtain ⟨env', L', e⟩ := outer (max 2 (min ns.length 4)) (by omega)
  have en : (max 2 (min (ns.length : Int) 4)).toNat = max 2 (min ns.length 4) := by omega
  have rg : -4611686018427387904 ≤ max 2 (min (ns.length : Int) 4) ∧ max 2 (min (ns.length : Int) 4) < 4611686018427387904 := by omega
  have zs := sizeLine_eq
  refine ⟨_, fn_out (w := .d (.bool true)) (L' := L') rfl ?_ (settle_d _ _ _ _) (outV_nil _ _)⟩
  refine seq_nx (env1 := env') (L1 := L') (by
    refine for_nx (ws := rngV 0 (max 2 (min ns.length 4))) ?_ e
    rw [← en]
    simp [-u_cMin2, -u_cMax2, cMin2_eq, cMax2_eq, rg]) (by simp)
end L2.HW
set_option maxHeartbeats 0
namespace L2.HW.R_k22
open PySem PySem.Spec PyProof.Rows L2.HW
abbrev top (i : Nat) : Stmt := PySem.Challenge.pw_hastyways_k22_refused_rule.main.body.getD i (.Pass ⟨0, 0, 0, 0⟩)
variable {P : Program} {w : World} {K : PySem.W.Frag} {mg : Str → Option Value} {base : Heap}
abbrev N__law_take : List Str := ["_law_pile_here", "_law_size", "_law_digit"]
abbrev p__law_take : List Str := ["_law_pile_here", "_law_size"]
theorem sc__law_take : FnScope N__law_take p__law_take (defScope (top 42)) := ⟨rfl, rfl, rfl, by decide +kernel, rfl, by decide +kernel, by decide +kernel⟩
theorem bi__law_take : BindE "_law_take" (top 42) p__law_take := fun _ _ _ _ _ _ us hl => match us, hl with | [_, _], _ => rfl
abbrev N__law_roads : List Str := ["_law_pile_here", "_law_many", "_law_end", "_law_count", "_law_roads_here", "_law_r", "_law_u", "_law_v"]
abbrev p__law_roads : List Str := ["_law_pile_here", "_law_many", "_law_end", "_law_count"]
theorem sc__law_roads : FnScope N__law_roads p__law_roads (defScope (top 43)) := ⟨rfl, rfl, rfl, by decide +kernel, rfl, by decide +kernel, by decide +kernel⟩
theorem bi__law_roads : BindE "_law_roads" (top 43) p__law_roads := fun _ _ _ _ _ _ us hl => match us, hl with | [_, _, _, _], _ => rfl
abbrev N__law_web : List Str := ["_law_pile_here", "_law_top", "_law_many", "_law_end", "_law_begin"]
abbrev p__law_web : List Str := ["_law_pile_here", "_law_top"]
theorem sc__law_web : FnScope N__law_web p__law_web (defScope (top 44)) := ⟨rfl, rfl, rfl, by decide +kernel, rfl, by decide +kernel, by decide +kernel⟩
theorem bi__law_web : BindE "_law_web" (top 44) p__law_web := fun _ _ _ _ _ _ us hl => match us, hl with | [_, _], _ => rfl
abbrev N__law_mixed : List Str := ["_law_cell", "_law_k", "_law_number"]
abbrev p__law_mixed : List Str := ["_law_cell", "_law_k"]
theorem sc__law_mixed : FnScope N__law_mixed p__law_mixed (defScope (top 40)) := ⟨rfl, rfl, rfl, by decide +kernel, rfl, by decide +kernel, by decide +kernel⟩
theorem bi__law_mixed : BindE "_law_mixed" (top 40) p__law_mixed := fun _ _ _ _ _ _ us hl => match us, hl with | [_, _], _ => rfl
abbrev N__law_pile : List Str := ["_law_script", "_law_k", "_law_cell", "_law_found", "_law_j"]
abbrev p__law_pile : List Str := ["_law_script", "_law_k"]
theorem sc__law_pile : FnScope N__law_pile p__law_pile (defScope (top 41)) := ⟨rfl, rfl, rfl, by decide +kernel, rfl, by decide +kernel, by decide +kernel⟩
theorem bi__law_pile : BindE "_law_pile" (top 41) p__law_pile := fun _ _ _ _ _ _ us hl => match us, hl with | [_, _], _ => rfl
abbrev N__law_bad_webs : List Str := ["_law_road", "_law_found", "_law_many", "_law_odd", "_law_odds"]
abbrev p__law_bad_webs : List Str := []
theorem sc__law_bad_webs : FnScope N__law_bad_webs p__law_bad_webs (defScope (top 45)) := ⟨rfl, rfl, rfl, by decide +kernel, rfl, by decide +kernel, by decide +kernel⟩
theorem bi__law_bad_webs : BindE "_law_bad_webs" (top 45) p__law_bad_webs := fun _ _ _ _ _ _ us hl => match us, hl with | [], _ => rfl
abbrev N_is_whole : List Str := ["thing"]
abbrev p_is_whole : List Str := ["thing"]
theorem sc_is_whole : FnScope N_is_whole p_is_whole (defScope (top 13)) := ⟨rfl, rfl, rfl, by decide +kernel, rfl, by decide +kernel, by decide +kernel⟩
theorem bi_is_whole : BindE "is_whole" (top 13) p_is_whole := fun _ _ _ _ _ _ us hl => match us, hl with | [_], _ => rfl
abbrev N_is_place : List Str := ["many", "thing"]
abbrev p_is_place : List Str := ["many", "thing"]
theorem sc_is_place : FnScope N_is_place p_is_place (defScope (top 15)) := ⟨rfl, rfl, rfl, by decide +kernel, rfl, by decide +kernel, by decide +kernel⟩
theorem bi_is_place : BindE "is_place" (top 15) p_is_place := fun _ _ _ _ _ _ us hl => match us, hl with | [_, _], _ => rfl
abbrev N_is_more : List Str := ["thing"]
abbrev p_is_more : List Str := ["thing"]
theorem sc_is_more : FnScope N_is_more p_is_more (defScope (top 14)) := ⟨rfl, rfl, rfl, by decide +kernel, rfl, by decide +kernel, by decide +kernel⟩
theorem bi_is_more : BindE "is_more" (top 14) p_is_more := fun _ _ _ _ _ _ us hl => match us, hl with | [_], _ => rfl
abbrev N_is_road : List Str := ["many", "end", "thing", "u", "v", "length", "width"]
abbrev p_is_road : List Str := ["many", "end", "thing"]
theorem sc_is_road : FnScope N_is_road p_is_road (defScope (top 16)) := ⟨rfl, rfl, rfl, by decide +kernel, rfl, by decide +kernel, by decide +kernel⟩
theorem bi_is_road : BindE "is_road" (top 16) p_is_road := fun _ _ _ _ _ _ us hl => match us, hl with | [_, _, _], _ => rfl
abbrev N_is_right_web : List Str := ["thing", "many", "begin", "end", "roads", "road"]
abbrev p_is_right_web : List Str := ["thing"]
theorem sc_is_right_web : FnScope N_is_right_web p_is_right_web (defScope (top 17)) := ⟨rfl, rfl, rfl, by decide +kernel, rfl, by decide +kernel, by decide +kernel⟩
theorem bi_is_right_web : BindE "is_right_web" (top 17) p_is_right_web := fun _ _ _ _ _ _ us hl => match us, hl with | [_], _ => rfl
abbrev N_look_at_web : List Str := ["web"]
abbrev p_look_at_web : List Str := ["web"]
theorem sc_look_at_web : FnScope N_look_at_web p_look_at_web (defScope (top 18)) := ⟨rfl, rfl, rfl, by decide +kernel, rfl, by decide +kernel, by decide +kernel⟩
theorem bi_look_at_web : BindE "look_at_web" (top 18) p_look_at_web := fun _ _ _ _ _ _ us hl => match us, hl with | [_], _ => rfl
abbrev N_lengths_to : List Str := ["web", "free", "best", "turn", "r", "u", "v", "length", "width"]
abbrev p_lengths_to : List Str := ["web", "free"]
theorem sc_lengths_to : FnScope N_lengths_to p_lengths_to (defScope (top 30)) := ⟨rfl, rfl, rfl, by decide +kernel, rfl, by decide +kernel, by decide +kernel⟩
theorem bi_lengths_to : BindE "lengths_to" (top 30) p_lengths_to := fun _ _ _ _ _ _ us hl => match us, hl with | [_, _], _ => rfl
abbrev N_first_way : List Str := ["web", "free", "best", "here", "way", "r", "u", "v", "length", "width"]
abbrev p_first_way : List Str := ["web", "free"]
theorem sc_first_way : FnScope N_first_way p_first_way (defScope (top 31)) := ⟨rfl, rfl, rfl, by decide +kernel, rfl, by decide +kernel, by decide +kernel⟩
theorem bi_first_way : BindE "first_way" (top 31) p_first_way := fun _ _ _ _ _ _ us hl => match us, hl with | [_, _], _ => rfl
abbrev N_found_hurried : List Str := ["web", "free", "found", "way", "n", "r", "u", "v", "length", "width"]
abbrev p_found_hurried : List Str := ["web"]
theorem sc_found_hurried : FnScope N_found_hurried p_found_hurried (defScope (top 32)) := ⟨rfl, rfl, rfl, by decide +kernel, rfl, by decide +kernel, by decide +kernel⟩
theorem bi_found_hurried : BindE "found_hurried" (top 32) p_found_hurried := fun _ _ _ _ _ _ us hl => match us, hl with | [_], _ => rfl
abbrev N_hurried : List Str := ["web"]
abbrev p_hurried : List Str := ["web"]
theorem sc_hurried : FnScope N_hurried p_hurried (defScope (top 33)) := ⟨rfl, rfl, rfl, by decide +kernel, rfl, by decide +kernel, by decide +kernel⟩
theorem bi_hurried : BindE "hurried" (top 33) p_hurried := fun _ _ _ _ _ _ us hl => match us, hl with | [_], _ => rfl
abbrev N_found_rows : List Str := ["web", "length", "n", "way"]
abbrev p_found_rows : List Str := ["web"]
theorem sc_found_rows : FnScope N_found_rows p_found_rows (defScope (top 34)) := ⟨rfl, rfl, rfl, by decide +kernel, rfl, by decide +kernel, by decide +kernel⟩
theorem bi_found_rows : BindE "found_rows" (top 34) p_found_rows := fun _ _ _ _ _ _ us hl => match us, hl with | [_], _ => rfl
abbrev N_arcs : List Str := ["web", "used", "found", "r", "u", "v", "length", "width"]
abbrev p_arcs : List Str := ["web", "used"]
theorem sc_arcs : FnScope N_arcs p_arcs (defScope (top 22)) := ⟨rfl, rfl, rfl, by decide +kernel, rfl, by decide +kernel, by decide +kernel⟩
theorem bi_arcs : BindE "arcs" (top 22) p_arcs := fun _ _ _ _ _ _ us hl => match us, hl with | [_, _], _ => rfl
abbrev N_distances : List Str := ["web", "used", "known", "best", "there", "turn", "arc", "number", "many", "place"]
abbrev p_distances : List Str := ["web", "used", "known"]
theorem sc_distances : FnScope N_distances p_distances (defScope (top 23)) := ⟨rfl, rfl, rfl, by decide +kernel, rfl, by decide +kernel, by decide +kernel⟩
theorem bi_distances : BindE "distances" (top 23) p_distances := fun _ _ _ _ _ _ us hl => match us, hl with | [_, _, _], _ => rfl
abbrev N_shortest : List Str := ["web", "used", "best", "chain", "here"]
abbrev p_shortest : List Str := ["web", "used"]
theorem sc_shortest : FnScope N_shortest p_shortest (defScope (top 24)) := ⟨rfl, rfl, rfl, by decide +kernel, rfl, by decide +kernel, by decide +kernel⟩
theorem bi_shortest : BindE "shortest" (top 24) p_shortest := fun _ _ _ _ _ _ us hl => match us, hl with | [_, _], _ => rfl
abbrev N_taken : List Str := ["web", "longest", "used", "found", "chain", "n", "arc", "length", "roads"]
abbrev p_taken : List Str := ["web", "longest"]
theorem sc_taken : FnScope N_taken p_taken (defScope (top 25)) := ⟨rfl, rfl, rfl, by decide +kernel, rfl, by decide +kernel, by decide +kernel⟩
theorem bi_taken : BindE "taken" (top 25) p_taken := fun _ _ _ _ _ _ us hl => match us, hl with | [_, _], _ => rfl
abbrev N_found_chains : List Str := ["web"]
abbrev p_found_chains : List Str := ["web"]
theorem sc_found_chains : FnScope N_found_chains p_found_chains (defScope (top 26)) := ⟨rfl, rfl, rfl, by decide +kernel, rfl, by decide +kernel, by decide +kernel⟩
theorem bi_found_chains : BindE "found_chains" (top 26) p_found_chains := fun _ _ _ _ _ _ us hl => match us, hl with | [_], _ => rfl
abbrev N_brought : List Str := ["rows", "t", "length", "width"]
abbrev p_brought : List Str := ["rows", "t"]
theorem sc_brought : FnScope N_brought p_brought (defScope (top 27)) := ⟨rfl, rfl, rfl, by decide +kernel, rfl, by decide +kernel, by decide +kernel⟩
theorem bi_brought : BindE "brought" (top 27) p_brought := fun _ _ _ _ _ _ us hl => match us, hl with | [_, _], _ => rfl
abbrev N_found_short : List Str := ["web", "rows", "ways", "found", "t", "width", "one"]
abbrev p_found_short : List Str := ["web"]
theorem sc_found_short : FnScope N_found_short p_found_short (defScope (top 37)) := ⟨rfl, rfl, rfl, by decide +kernel, rfl, by decide +kernel, by decide +kernel⟩
theorem bi_found_short : BindE "found_short" (top 37) p_found_short := fun _ _ _ _ _ _ us hl => match us, hl with | [_], _ => rfl
abbrev N_short_from : List Str := ["web"]
abbrev p_short_from : List Str := ["web"]
theorem sc_short_from : FnScope N_short_from p_short_from (defScope (top 38)) := ⟨rfl, rfl, rfl, by decide +kernel, rfl, by decide +kernel, by decide +kernel⟩
theorem bi_short_from : BindE "short_from" (top 38) p_short_from := fun _ _ _ _ _ _ us hl => match us, hl with | [_], _ => rfl
abbrev N_look_at_moment : List Str := ["t"]
abbrev p_look_at_moment : List Str := ["t"]
theorem sc_look_at_moment : FnScope N_look_at_moment p_look_at_moment (defScope (top 19)) := ⟨rfl, rfl, rfl, by decide +kernel, rfl, by decide +kernel, by decide +kernel⟩
theorem bi_look_at_moment : BindE "look_at_moment" (top 19) p_look_at_moment := fun _ _ _ _ _ _ us hl => match us, hl with | [_], _ => rfl
abbrev N_hurried_most : List Str := ["web", "t"]
abbrev p_hurried_most : List Str := ["web", "t"]
theorem sc_hurried_most : FnScope N_hurried_most p_hurried_most (defScope (top 35)) := ⟨rfl, rfl, rfl, by decide +kernel, rfl, by decide +kernel, by decide +kernel⟩
theorem bi_hurried_most : BindE "hurried_most" (top 35) p_hurried_most := fun _ _ _ _ _ _ us hl => match us, hl with | [_, _], _ => rfl
abbrev N_look_at_number : List Str := ["n"]
abbrev p_look_at_number : List Str := ["n"]
theorem sc_look_at_number : FnScope N_look_at_number p_look_at_number (defScope (top 20)) := ⟨rfl, rfl, rfl, by decide +kernel, rfl, by decide +kernel, by decide +kernel⟩
theorem bi_look_at_number : BindE "look_at_number" (top 20) p_look_at_number := fun _ _ _ _ _ _ us hl => match us, hl with | [_], _ => rfl
abbrev N_time_for : List Str := ["rows", "n", "low", "high", "middle"]
abbrev p_time_for : List Str := ["rows", "n"]
theorem sc_time_for : FnScope N_time_for p_time_for (defScope (top 28)) := ⟨rfl, rfl, rfl, by decide +kernel, rfl, by decide +kernel, by decide +kernel⟩
theorem bi_time_for : BindE "time_for" (top 28) p_time_for := fun _ _ _ _ _ _ us hl => match us, hl with | [_, _], _ => rfl
abbrev N_hurried_time : List Str := ["web", "n"]
abbrev p_hurried_time : List Str := ["web", "n"]
theorem sc_hurried_time : FnScope N_hurried_time p_hurried_time (defScope (top 36)) := ⟨rfl, rfl, rfl, by decide +kernel, rfl, by decide +kernel, by decide +kernel⟩
theorem bi_hurried_time : BindE "hurried_time" (top 36) p_hurried_time := fun _ _ _ _ _ _ us hl => match us, hl with | [_, _], _ => rfl
abbrev N__law_word_of : List Str := ["_law_error", "_law_found", "_law_words", "_law_told", "_law_word", "_law_truth"]
abbrev p__law_word_of : List Str := ["_law_error"]
theorem sc__law_word_of : FnScope N__law_word_of p__law_word_of (defScope (top 48)) := ⟨rfl, rfl, rfl, by decide +kernel, rfl, by decide +kernel, by decide +kernel⟩
theorem bi__law_word_of : BindE "_law_word_of" (top 48) p__law_word_of := fun _ _ _ _ _ _ us hl => match us, hl with | [_], _ => rfl
abbrev N__law_asked : List Str := ["_law_which", "_law_one", "_law_two", "_law_kept", "_law_error", "e"]
abbrev p__law_asked : List Str := ["_law_which", "_law_one", "_law_two"]
theorem sc__law_asked : FnScope N__law_asked p__law_asked (defScope (top 49)) := ⟨rfl, rfl, rfl, by decide +kernel, rfl, by decide +kernel, by decide +kernel⟩
theorem bi__law_asked : BindE "_law_asked" (top 49) p__law_asked := fun _ _ _ _ _ _ us hl => match us, hl with | [_, _, _], _ => rfl
abbrev N__law_bad_moments : List Str := []
abbrev p__law_bad_moments : List Str := []
theorem sc__law_bad_moments : FnScope N__law_bad_moments p__law_bad_moments (defScope (top 46)) := ⟨rfl, rfl, rfl, by decide +kernel, rfl, by decide +kernel, by decide +kernel⟩
theorem bi__law_bad_moments : BindE "_law_bad_moments" (top 46) p__law_bad_moments := fun _ _ _ _ _ _ us hl => match us, hl with | [], _ => rfl
abbrev N__law_bad_numbers : List Str := []
abbrev p__law_bad_numbers : List Str := []
theorem sc__law_bad_numbers : FnScope N__law_bad_numbers p__law_bad_numbers (defScope (top 47)) := ⟨rfl, rfl, rfl, by decide +kernel, rfl, by decide +kernel, by decide +kernel⟩
theorem bi__law_bad_numbers : BindE "_law_bad_numbers" (top 47) p__law_bad_numbers := fun _ _ _ _ _ _ us hl => match us, hl with | [], _ => rfl
abbrev N_law : List Str := ["_law_script", "_law_k", "_law_web_here", "_law_bad", "_law_told", "_law_which"]
abbrev p_law : List Str := ["_law_script"]
theorem sc_law : FnScope N_law p_law (defScope (top 50)) := ⟨rfl, rfl, rfl, by decide +kernel, rfl, by decide +kernel, by decide +kernel⟩
theorem bi_law : BindE "law" (top 50) p_law := fun _ _ _ _ _ _ us hl => match us, hl with | [_], _ => rfl
theorem H__law_take (D : Def K mg "_law_take" (top 42)) (m_int : mg "int" = none) : Has P w K mg base "_law_take" p__law_take 1 F_l_take :=
  has_of (k := 0) D bi__law_take (N := N__law_take) sc__law_take rfl (by decide) fun f cdv A outer s H E c =>
  (sb_cons (z_set c.toCtx 2 (w_mod (w_int m_int (sa_cons (w_ix c.toCtx (w_v 0) se_int) sa_nil)) (w_v 1)))
  (sb_cons (ss_asg (w_div (w_ix c.toCtx (w_v 0) se_int) (w_v 1)) (sg_ix c.toCtx.u1 (w_v 0) se_int))
  (sb_one (ss_ret (w_v 2)))))
theorem H__law_roads (D : Def K mg "_law_roads" (top 43)) (m_range : mg "range" = none) (m_tuple : mg "tuple" = none) (H__law_take : Has P w K mg base "_law_take" p__law_take 1 F_l_take) : Has P w K mg base "_law_roads" p__law_roads 2 F_l_roads :=
  has_of (k := 1) D bi__law_roads (N := N__law_roads) sc__law_roads rfl (by decide) fun f cdv A outer s H E c =>
  (sb_cons (z_set c.toCtx 4 (se_new (sf_lst sa_nil)))
  (sb_cons (z_for c (si_r1 rfl m_range (sa_cons (w_v 3) sa_nil)) (g_name c.toCtx 5) (sb_cons (z_set c.toCtx 6 (w_call c.toCtx (H__law_take) (sa_cons (w_v 0) (sa_cons (w_sub (w_v 1) se_int) sa_nil)) ))
  (sb_cons (ss_if (t_ge c.toCtx (w_v 6) (w_v 2)) (sb_one (z_set c.toCtx 6 (w_add (w_v 6) se_int))) sb_nil)
  (sb_cons (z_set c.toCtx 7 (w_call c.toCtx (H__law_take) (sa_cons (w_v 0) (sa_cons (w_sub (w_v 1) se_int) sa_nil)) ))
  (sb_cons (ss_if (t_ge c.toCtx (w_v 7) (w_v 6)) (sb_one (z_set c.toCtx 7 (w_add (w_v 7) se_int))) sb_nil)
  (sb_one (ss_expr (se_append (w_v 4) (sa_cons (se_tup (sa_cons (w_v 6) (sa_cons (w_v 7) (sa_cons (w_add se_int (w_ix c.toCtx (se_dat (sf_lst (sa_cons se_int (sa_cons se_int (sa_cons se_int (sa_cons se_int (sa_cons se_int sa_nil))))))) (w_call c.toCtx (H__law_take) (sa_cons (w_v 0) (sa_cons se_int sa_nil)) ))) (sa_cons (w_add se_int (w_call c.toCtx (H__law_take) (sa_cons (w_v 0) (sa_cons se_int sa_nil)) )) sa_nil))))) sa_nil)))))))))
  (sb_one (ss_ret (w_tuple m_tuple (sa_cons (w_v 4) sa_nil))))))
theorem H__law_web (D : Def K mg "_law_web" (top 44)) (m_int : mg "int" = none) (H__law_take : Has P w K mg base "_law_take" p__law_take 1 F_l_take) (H__law_roads : Has P w K mg base "_law_roads" p__law_roads 2 F_l_roads) : Has P w K mg base "_law_web" p__law_web 3 F_l_web :=
  has_of (k := 2) D bi__law_web (N := N__law_web) sc__law_web rfl (by decide) fun f cdv A outer s H E c =>
  (sb_cons (z_set c.toCtx 2 (w_add se_int (w_call c.toCtx (H__law_take) (sa_cons (w_v 0) (sa_cons (w_sub (w_v 1) se_int) sa_nil)) )))
  (sb_cons (z_set c.toCtx 3 (w_call c.toCtx (H__law_take) (sa_cons (w_v 0) (sa_cons (w_v 2) sa_nil)) ))
  (sb_cons (z_set c.toCtx 4 (w_mod (w_int m_int (sa_cons (w_add (w_add (w_v 3) se_int) (w_call c.toCtx (H__law_take) (sa_cons (w_v 0) (sa_cons (w_sub (w_v 2) se_int) sa_nil)) )) sa_nil)) (w_v 2)))
  (sb_one (ss_ret (se_tup (sa_cons (w_v 2) (sa_cons (w_v 4) (sa_cons (w_v 3) (sa_cons (w_call c.toCtx (H__law_roads) (sa_cons (w_v 0) (sa_cons (w_v 2) (sa_cons (w_v 3) (sa_cons (w_call c.toCtx (H__law_take) (sa_cons (w_v 0) (sa_cons (w_add (w_mul se_int (w_v 2)) se_int) sa_nil)) ) sa_nil)))) ) sa_nil))))))))))
theorem H__law_mixed (D : Def K mg "_law_mixed" (top 40)) (m_int : mg "int" = none) : Has P w K mg base "_law_mixed" p__law_mixed 1 F_l_mixed :=
  has_of (k := 0) D bi__law_mixed (N := N__law_mixed) sc__law_mixed rfl (by decide) fun f cdv A outer s H E c =>
  (sb_cons (z_set c.toCtx 2 (w_mod (w_int m_int (sa_cons (w_add (w_add (w_mul (w_mod (w_int m_int (sa_cons (w_v 0) sa_nil)) se_int) se_int) (w_mul (w_v 1) se_int)) se_int) sa_nil)) se_int))
  (sb_cons (z_set c.toCtx 2 (w_mod (w_int m_int (sa_cons (w_mul (w_v 2) (w_v 2)) sa_nil)) se_int))
  (sb_one (ss_ret (w_mod (w_int m_int (sa_cons (w_mul (w_v 2) (w_add (w_v 2) se_int)) sa_nil)) se_int)))))
theorem H__law_pile (D : Def K mg "_law_pile" (top 41)) (m_int : mg "int" = none) (m_len : mg "len" = none) (m_range : mg "range" = none) (H__law_mixed : Has P w K mg base "_law_mixed" p__law_mixed 1 F_l_mixed) : HasF P w K mg base "_law_pile" p__law_pile 2 F_l_pile :=
  hasF_of (k := 1) D bi__law_pile (N := N__law_pile) sc__law_pile rfl (by decide) fun f cdv A outer s H E c =>
  (sb_cons (z_set c.toCtx 2 se_int)
  (sb_cons (ss_if (t_lt c.toCtx (w_v 1) (w_len m_len (sa_cons (w_v 0) sa_nil))) (sb_one (z_set c.toCtx 2 (w_ix c.toCtx (w_v 0) (w_v 1)))) sb_nil)
  (sb_cons (ss_if (t_ge c.toCtx (w_v 2) (w_pow se_int se_int)) (sb_one (ss_retF (sf_lst (sa_cons (w_mod (w_int m_int (sa_cons (w_sub (w_v 2) (w_pow se_int se_int)) sa_nil)) (w_mul (w_mul (w_mul (w_pow se_int se_int) (w_pow se_int se_int)) (w_pow se_int se_int)) (w_pow se_int se_int))) sa_nil)))) sb_nil)
  (sb_cons (z_set c.toCtx 3 se_int)
  (sb_cons (z_for c (si_r1 rfl m_range (sa_cons se_int sa_nil)) (g_name c.toCtx 4) (sb_one (z_set c.toCtx 3 (w_add (w_mul (w_v 3) se_int) (w_call c.toCtx (H__law_mixed) (sa_cons (w_v 2) (sa_cons (w_add (w_add (w_mul se_int (w_v 1)) (w_mul se_int (w_v 4))) (w_mul (w_v 4) (w_v 4))) sa_nil)) )))))
  (sb_one (ss_retF (sf_lst (sa_cons (w_v 3) sa_nil)))))))))
theorem H__law_bad_webs (D : Def K mg "_law_bad_webs" (top 45)) : Has P w K mg base "_law_bad_webs" p__law_bad_webs 1 F_l_bad_webs :=
  has_of (k := 0) D bi__law_bad_webs (N := N__law_bad_webs) sc__law_bad_webs rfl (by decide) fun f cdv A outer s H E c =>
  (sb_cons (z_set c.toCtx 0 (se_tup (sa_cons se_int (sa_cons se_int (sa_cons se_int (sa_cons se_int sa_nil))))))
  (sb_cons (z_set c.toCtx 1 (se_new (sf_lst (sa_cons se_non (sa_cons se_int (sa_cons se_bl (sa_cons se_str (sa_cons (se_tup sa_nil) (sa_cons (se_dat (sf_lst sa_nil)) (sa_cons (se_tup (sa_cons se_int (sa_cons se_int (sa_cons se_int sa_nil)))) (sa_cons (se_tup (sa_cons se_int (sa_cons se_int (sa_cons se_int (sa_cons (se_tup sa_nil) (sa_cons (se_tup sa_nil) sa_nil)))))) (sa_cons (se_dat (sf_lst (sa_cons se_int (sa_cons se_int (sa_cons se_int (sa_cons (se_tup sa_nil) sa_nil)))))) (sa_cons (se_tup (sa_cons se_int (sa_cons se_int (sa_cons se_int (sa_cons (se_dat (sf_lst sa_nil)) sa_nil))))) (sa_cons (se_tup (sa_cons se_int (sa_cons se_int (sa_cons se_int (sa_cons se_non sa_nil))))) sa_nil))))))))))))))
  (sb_cons (z_for c (si_v (se_dat (sf_lst (sa_cons se_int (sa_cons se_int (sa_cons (se_neg se_int) (sa_cons se_bl (sa_cons se_non (sa_cons se_str (sa_cons (se_tup (sa_cons se_int sa_nil)) sa_nil)))))))))) (g_name c.toCtx 2) (sb_one (ss_expr (se_append (w_v 1) (sa_cons (se_tup (sa_cons (w_v 2) (sa_cons se_int (sa_cons se_int (sa_cons (se_tup sa_nil) sa_nil))))) sa_nil)))))
  (sb_cons (z_for c (si_v (se_dat (sf_lst (sa_cons se_int (sa_cons (se_neg se_int) (sa_cons se_bl (sa_cons se_non (sa_cons se_str (sa_cons (se_tup (sa_cons se_int sa_nil)) sa_nil))))))))) (g_name c.toCtx 3) (sb_one (z_set c.toCtx 1 (se_new (sf_cat (w_v 1) (se_dat (sf_lst (sa_cons (se_tup (sa_cons se_int (sa_cons (w_v 3) (sa_cons se_int (sa_cons (se_tup sa_nil) sa_nil))))) (sa_cons (se_tup (sa_cons se_int (sa_cons se_int (sa_cons (w_v 3) (sa_cons (se_tup sa_nil) sa_nil))))) sa_nil)))))))))
  (sb_cons (z_set c.toCtx 1 (se_new (sf_cat (w_v 1) (se_dat (sf_lst (sa_cons (se_tup (sa_cons se_int (sa_cons se_int (sa_cons se_int (sa_cons (se_tup sa_nil) sa_nil))))) (sa_cons (se_tup (sa_cons se_int (sa_cons se_int (sa_cons se_int (sa_cons (se_tup (sa_cons (w_v 0) sa_nil)) sa_nil))))) (sa_cons (se_tup (sa_cons se_int (sa_cons se_bl (sa_cons se_int (sa_cons (se_tup sa_nil) sa_nil))))) (sa_cons (se_tup (sa_cons se_int (sa_cons se_int (sa_cons se_bl (sa_cons (se_tup sa_nil) sa_nil))))) sa_nil)))))))))
  (sb_cons (z_set c.toCtx 4 (se_dat (sf_lst (sa_cons se_non (sa_cons (se_tup sa_nil) (sa_cons (se_tup (sa_cons se_int (sa_cons se_int (sa_cons se_int sa_nil)))) (sa_cons (se_tup (sa_cons se_int (sa_cons se_int (sa_cons se_int (sa_cons se_int (sa_cons se_int sa_nil)))))) (sa_cons (se_dat (sf_lst (sa_cons se_int (sa_cons se_int (sa_cons se_int (sa_cons se_int sa_nil)))))) (sa_cons (se_tup (sa_cons se_int (sa_cons se_int (sa_cons se_int (sa_cons se_int sa_nil))))) (sa_cons (se_tup (sa_cons se_int (sa_cons se_int (sa_cons se_int (sa_cons se_int sa_nil))))) (sa_cons (se_tup (sa_cons se_int (sa_cons se_int (sa_cons se_int (sa_cons se_int sa_nil))))) (sa_cons (se_tup (sa_cons (se_neg se_int) (sa_cons se_int (sa_cons se_int (sa_cons se_int sa_nil))))) sa_nil))))))))))))
  (sb_cons (z_set c.toCtx 4 (w_add (w_v 4) (se_dat (sf_lst (sa_cons (se_tup (sa_cons se_int (sa_cons se_int (sa_cons se_int (sa_cons se_int sa_nil))))) (sa_cons (se_tup (sa_cons se_int (sa_cons se_int (sa_cons se_int (sa_cons se_int sa_nil))))) (sa_cons (se_tup (sa_cons se_int (sa_cons se_int (sa_cons (se_neg se_int) (sa_cons se_int sa_nil))))) (sa_cons (se_tup (sa_cons se_int (sa_cons se_int (sa_cons se_int (sa_cons (se_neg se_int) sa_nil))))) (sa_cons (se_tup (sa_cons se_int (sa_cons se_int (sa_cons se_bl (sa_cons se_int sa_nil))))) (sa_cons (se_tup (sa_cons se_int (sa_cons se_int (sa_cons se_int (sa_cons se_bl sa_nil))))) sa_nil))))))))))
  (sb_cons (z_set c.toCtx 4 (w_add (w_v 4) (se_dat (sf_lst (sa_cons (se_tup (sa_cons se_int (sa_cons (se_neg se_int) (sa_cons se_int (sa_cons se_int sa_nil))))) (sa_cons (se_tup (sa_cons se_int (sa_cons se_int (sa_cons se_int (sa_cons se_int sa_nil))))) (sa_cons (se_tup (sa_cons se_int (sa_cons se_int (sa_cons se_int (sa_cons se_int sa_nil))))) (sa_cons (se_tup (sa_cons se_non (sa_cons se_int (sa_cons se_int (sa_cons se_int sa_nil))))) (sa_cons (se_tup (sa_cons se_int (sa_cons (se_dat (sf_lst (sa_cons se_int sa_nil))) (sa_cons se_int (sa_cons se_int sa_nil))))) sa_nil)))))))))
  (sb_cons (z_for c (si_v (w_add (w_v 4) (se_dat (sf_lst (sa_cons (se_tup (sa_cons se_bl (sa_cons se_int (sa_cons se_int (sa_cons se_int sa_nil))))) (sa_cons (se_tup (sa_cons se_int (sa_cons se_bl (sa_cons se_int (sa_cons se_int sa_nil))))) (sa_cons (se_tup (sa_cons se_int (sa_cons se_int (sa_cons se_non (sa_cons se_int sa_nil))))) (sa_cons (se_tup (sa_cons se_int (sa_cons se_int (sa_cons se_int (sa_cons se_str sa_nil))))) (sa_cons (se_tup (sa_cons se_int (sa_cons se_int (sa_cons (se_tup (sa_cons se_int sa_nil)) (sa_cons se_int sa_nil))))) sa_nil))))))))) (g_name c.toCtx 3) (sb_cons (z_set c.toCtx 1 (se_new (sf_cat (w_v 1) (se_dat (sf_lst (sa_cons (se_tup (sa_cons se_int (sa_cons se_int (sa_cons se_int (sa_cons (se_tup (sa_cons (w_v 3) sa_nil)) sa_nil))))) (sa_cons (se_tup (sa_cons se_int (sa_cons se_int (sa_cons se_int (sa_cons (se_tup (sa_cons (w_v 0) (sa_cons (w_v 3) sa_nil))) sa_nil))))) (sa_cons (se_tup (sa_cons se_int (sa_cons se_int (sa_cons se_int (sa_cons (se_tup (sa_cons (w_v 3) (sa_cons (w_v 0) sa_nil))) sa_nil))))) sa_nil))))))))
  (sb_one (ss_expr (se_append (w_v 1) (sa_cons (se_tup (sa_cons se_int (sa_cons se_int (sa_cons se_int (sa_cons (se_tup (sa_cons (w_v 0) (sa_cons (w_v 3) (sa_cons (w_v 0) sa_nil)))) sa_nil))))) sa_nil))))))
  (sb_one (ss_ret (w_v 1))))))))))))
theorem H_is_whole (D : Def K mg "is_whole" (top 13)) (m_bool : mg "bool" = none) (m_int : mg "int" = none) (m_isinstance : mg "isinstance" = none) : Has P w K mg base "is_whole" p_is_whole 1 F_is_whole :=
  has_of (k := 0) D bi_is_whole (N := N_is_whole) sc_is_whole rfl (by decide) fun f cdv A outer s H E c =>
  (sb_one (ss_ret (se_and (se_isi rfl m_isinstance rfl m_int rfl kit_int (w_v 0)) (se_and (se_not (se_isi rfl m_isinstance rfl m_bool rfl kit_bool (w_v 0))) (se_one (w_ge c.toCtx (w_v 0) se_int))))))
theorem H_is_place (D : Def K mg "is_place" (top 15)) (H_is_whole : Has P w K mg base "is_whole" p_is_whole 1 F_is_whole) : Has P w K mg base "is_place" p_is_place 2 F_is_place :=
  has_of (k := 1) D bi_is_place (N := N_is_place) sc_is_place rfl (by decide) fun f cdv A outer s H E c =>
  (sb_one (ss_ret (se_and (w_call c.toCtx (H_is_whole) (sa_cons (w_v 1) sa_nil) ) (se_one (w_lt c.toCtx (w_v 1) (w_v 0))))))
theorem H_is_more (D : Def K mg "is_more" (top 14)) (H_is_whole : Has P w K mg base "is_whole" p_is_whole 1 F_is_whole) : Has P w K mg base "is_more" p_is_more 2 F_is_more :=
  has_of (k := 1) D bi_is_more (N := N_is_more) sc_is_more rfl (by decide) fun f cdv A outer s H E c =>
  (sb_one (ss_ret (se_and (w_call c.toCtx (H_is_whole) (sa_cons (w_v 0) sa_nil) ) (se_one (w_gt c.toCtx (w_v 0) se_int)))))
theorem H_is_road (D : Def K mg "is_road" (top 16)) (m_isinstance : mg "isinstance" = none) (m_len : mg "len" = none) (m_tuple : mg "tuple" = none) (H_is_place : Has P w K mg base "is_place" p_is_place 2 F_is_place) (H_is_more : Has P w K mg base "is_more" p_is_more 2 F_is_more) : Has P w K mg base "is_road" p_is_road 3 F_is_road :=
  has_of (k := 2) D bi_is_road (N := N_is_road) sc_is_road rfl (by decide) fun f cdv A outer s H E c =>
  (sb_cons (ss_if (st_w (sw_or (st_not (st_val (se_isi rfl m_isinstance rfl m_tuple rfl kit_tuple (w_v 2)))) (sw_or1 (t_ne c.toCtx (w_len m_len (sa_cons (w_v 2) sa_nil)) se_int)))) (sb_one (ss_ret se_bl)) sb_nil)
  (sb_cons (ss_asg (w_v 2) (sg_tup c.toCtx.cm (sgs_cons (g_name c.toCtx 3) (sgs_cons (g_name c.toCtx 4) (sgs_cons (g_name c.toCtx 5) (sgs_cons (g_name c.toCtx 6) sgs_nil))))))
  (sb_cons (ss_if (st_w (sw_or (st_not (st_val (w_call c.toCtx (H_is_place) (sa_cons (w_v 0) (sa_cons (w_v 3) sa_nil)) ))) (sw_or (st_not (st_val (w_call c.toCtx (H_is_place) (sa_cons (w_v 0) (sa_cons (w_v 4) sa_nil)) ))) (sw_or (t_eq c.toCtx (w_v 3) (w_v 4)) (sw_or1 (t_eq c.toCtx (w_v 3) (w_v 1))))))) (sb_one (ss_ret se_bl)) sb_nil)
  (sb_one (ss_ret (se_and (w_call c.toCtx (H_is_more) (sa_cons (w_v 5) sa_nil) ) (se_one (w_call c.toCtx (H_is_more) (sa_cons (w_v 6) sa_nil) ))))))))
theorem H_is_right_web (D : Def K mg "is_right_web" (top 17)) (m_all : mg "all" = none) (m_isinstance : mg "isinstance" = none) (m_len : mg "len" = none) (m_tuple : mg "tuple" = none) (H_is_whole : Has P w K mg base "is_whole" p_is_whole 1 F_is_whole) (H_is_place : Has P w K mg base "is_place" p_is_place 2 F_is_place) (H_is_road : Has P w K mg base "is_road" p_is_road 3 F_is_road) : Has P w K mg base "is_right_web" p_is_right_web 4 F_is_right_web :=
  has_of (k := 3) D bi_is_right_web (N := N_is_right_web) sc_is_right_web rfl (by decide) fun f cdv A outer s H E c =>
  (sb_cons (ss_if (st_w (sw_or (st_not (st_val (se_isi rfl m_isinstance rfl m_tuple rfl kit_tuple (w_v 0)))) (sw_or (t_ne c.toCtx (w_len m_len (sa_cons (w_v 0) sa_nil)) se_int) (sw_or (st_not (st_val (w_call c.toCtx (H_is_whole) (sa_cons (w_ix c.toCtx (w_v 0) se_int) sa_nil) ))) (sw_or1 (t_lt c.toCtx (w_ix c.toCtx (w_v 0) se_int) se_int)))))) (sb_one (ss_ret se_bl)) sb_nil)
  (sb_cons (ss_asg (w_v 0) (sg_tup c.toCtx.cm (sgs_cons (g_name c.toCtx 1) (sgs_cons (g_name c.toCtx 2) (sgs_cons (g_name c.toCtx 3) (sgs_cons (g_name c.toCtx 4) sgs_nil))))))
  (sb_cons (ss_if (st_w (sw_or (st_not (st_val (w_call c.toCtx (H_is_place) (sa_cons (w_v 1) (sa_cons (w_v 2) sa_nil)) ))) (sw_or (st_not (st_val (w_call c.toCtx (H_is_place) (sa_cons (w_v 1) (sa_cons (w_v 3) sa_nil)) ))) (sw_or (t_eq c.toCtx (w_v 2) (w_v 3)) (sw_or1 (st_not (st_val (se_isi rfl m_isinstance rfl m_tuple rfl kit_tuple (w_v 4))))))))) (sb_one (ss_ret se_bl)) sb_nil)
  (sb_one (ss_ret (w_all c.toCtx m_all (sa_cons (se_dat (sf_comp c.toCtx.cm c.toCtx.nd (own := [("road", 5)]) (si_v (w_v 4)) (blkOk_by (by rfl)) (by decide) (fun s1 Z1 D1 l1 p1 => (g_name (Ctx.bk c.toCtx s1 Z1 _ _ p1) 5)) (fun s1 Z1 D1 l1 p1 => sts_nil) (fun s1 Z1 D1 l1 p1 => (w_call (Ctx.bk c.toCtx s1 Z1 _ _ p1) (H_is_road) (sa_cons (w_v 1) (sa_cons (w_v 3) (sa_cons (w_v 5) sa_nil))) )))) sa_nil)))))))
theorem H_look_at_web (D : Def K mg "look_at_web" (top 18)) (E_NoWeb : ExcF K mg "NoWeb") (H_is_right_web : Has P w K mg base "is_right_web" p_is_right_web 4 F_is_right_web) : Has P w K mg base "look_at_web" p_look_at_web 5 F_look_at_web :=
  has_of (k := 4) D bi_look_at_web (N := N_look_at_web) sc_look_at_web rfl (by decide) fun f cdv A outer s H E c =>
  (sb_one (ss_if (st_not (st_val (w_call c.toCtx (H_is_right_web) (sa_cons (w_v 0) sa_nil) ))) (sb_one (ss_raise c.toCtx E_NoWeb)) sb_nil))
theorem H_lengths_to (D : Def K mg "lengths_to" (top 30)) (m_enumerate : mg "enumerate" = none) (m_range : mg "range" = none) : Has P w K mg base "lengths_to" p_lengths_to 1 F_lengths_to :=
  has_of (k := 0) D bi_lengths_to (N := N_lengths_to) sc_lengths_to rfl (by decide) fun f cdv A outer s H E c =>
  (sb_cons (z_set c.toCtx 2 (se_new (sf_disp (sps_cons (w_ix (Ctx.fx c.toCtx) (w_v 0) se_int) se_int sps_nil))))
  (sb_cons (z_for c (si_r1 rfl m_range (sa_cons (w_ix c.toCtx (w_v 0) se_int) sa_nil)) (g_name c.toCtx 3) (sb_one (z_for c (si_enum rfl m_enumerate (sa_cons (w_ix c.toCtx (w_v 0) se_int) sa_nil)) (sg_tup c.toCtx.cm (sgs_cons (g_name c.toCtx 4) (sgs_cons (sg_tup c.toCtx.cm (sgs_cons (g_name c.toCtx 5) (sgs_cons (g_name c.toCtx 6) (sgs_cons (g_name c.toCtx 7) (sgs_cons (g_name c.toCtx 8) sgs_nil))))) sgs_nil))) (sb_one (ss_if (st_w (sw_and (t_gt c.toCtx (w_ix c.toCtx (w_v 1) (w_v 4)) se_int) (sw_and (t_in c.toCtx (w_v 6) (w_v 2)) (sw_and1 (st_w (sw_or (t_notIn c.toCtx (w_v 5) (w_v 2)) (sw_or1 (t_gt c.toCtx (w_ix c.toCtx (w_v 2) (w_v 5)) (w_add (w_ix c.toCtx (w_v 2) (w_v 6)) (w_v 7)))))))))) (sb_one (ss_asg (w_add (w_ix c.toCtx (w_v 2) (w_v 6)) (w_v 7)) (sg_ix c.toCtx.u1 (w_v 2) (w_v 5)))) sb_nil)))))
  (sb_one (ss_ret (w_v 2)))))
theorem H_first_way (D : Def K mg "first_way" (top 31)) (m_enumerate : mg "enumerate" = none) (m_tuple : mg "tuple" = none) (H_lengths_to : Has P w K mg base "lengths_to" p_lengths_to 1 F_lengths_to) : Has P w K mg base "first_way" p_first_way 2 F_first_way :=
  has_of (k := 1) D bi_first_way (N := N_first_way) sc_first_way rfl (by decide) fun f cdv A outer s H E c =>
  (sb_cons (z_set c.toCtx 2 (w_call c.toCtx (H_lengths_to) (sa_cons (w_v 0) (sa_cons (w_v 1) sa_nil)) ))
  (sb_cons (z_set c.toCtx 3 (w_ix c.toCtx (w_v 0) se_int))
  (sb_cons (ss_if (t_notIn c.toCtx (w_v 3) (w_v 2)) (sb_one (ss_ret se_non)) sb_nil)
  (sb_cons (z_set c.toCtx 4 (se_new (sf_lst sa_nil)))
  (sb_cons (z_while c (t_ne c.toCtx (w_v 3) (w_ix c.toCtx (w_v 0) se_int)) (sb_one (z_for c (si_enum rfl m_enumerate (sa_cons (w_ix c.toCtx (w_v 0) se_int) sa_nil)) (sg_tup c.toCtx.cm (sgs_cons (g_name c.toCtx 5) (sgs_cons (sg_tup c.toCtx.cm (sgs_cons (g_name c.toCtx 6) (sgs_cons (g_name c.toCtx 7) (sgs_cons (g_name c.toCtx 8) (sgs_cons (g_name c.toCtx 9) sgs_nil))))) sgs_nil))) (sb_one (ss_if (st_w (sw_and (t_gt c.toCtx (w_ix c.toCtx (w_v 1) (w_v 5)) se_int) (sw_and (t_eq c.toCtx (w_v 6) (w_v 3)) (sw_and (t_in c.toCtx (w_v 7) (w_v 2)) (sw_and1 (t_eq c.toCtx (w_ix c.toCtx (w_v 2) (w_v 6)) (w_add (w_ix c.toCtx (w_v 2) (w_v 7)) (w_v 8)))))))) (sb_cons (ss_expr (se_append (w_v 4) (sa_cons (w_v 5) sa_nil)))
  (sb_cons (z_set c.toCtx 3 (w_v 7))
  (sb_one ss_break))) sb_nil)))))
  (sb_one (ss_ret (w_tuple m_tuple (sa_cons (w_v 4) sa_nil)))))))))
theorem H_found_hurried (D : Def K mg "found_hurried" (top 32)) (m_min : mg "min" = none) (m_sum : mg "sum" = none) (H_first_way : Has P w K mg base "first_way" p_first_way 2 F_first_way) : HasF P w K mg base "found_hurried" p_found_hurried 3 F_found_hurried :=
  hasF_of (k := 2) D bi_found_hurried (N := N_found_hurried) sc_found_hurried rfl (by decide) fun f cdv A outer s H E c =>
  (sb_cons (by first | exact ss_newComp c.toCtx.cm c.toCtx.nd (i := 1) rfl rfl rfl (own := [("u", 6), ("v", 7), ("length", 8), ("width", 9)]) (si_v (w_ix c.toCtx (w_v 0) se_int)) (blkOk_by (by rfl)) (by decide) (fun s2 Z2 D2 l2 p2 => (sg_tup (Ctx.bk c.toCtx s2 Z2 _ _ p2).cm (sgs_cons (g_name (Ctx.bk c.toCtx s2 Z2 _ _ p2) 6) (sgs_cons (g_name (Ctx.bk c.toCtx s2 Z2 _ _ p2) 7) (sgs_cons (g_name (Ctx.bk c.toCtx s2 Z2 _ _ p2) 8) (sgs_cons (g_name (Ctx.bk c.toCtx s2 Z2 _ _ p2) 9) sgs_nil)))))) (fun s2 Z2 D2 l2 p2 => sts_nil) (fun s2 Z2 D2 l2 p2 => (w_v 9)) | exact (z_set c.toCtx 1 (se_new (sf_comp c.toCtx.cm c.toCtx.nd (own := [("u", 6), ("v", 7), ("length", 8), ("width", 9)]) (si_v (w_ix c.toCtx (w_v 0) se_int)) (blkOk_by (by rfl)) (by decide) (fun s1 Z1 D1 l1 p1 => (sg_tup (Ctx.bk c.toCtx s1 Z1 _ _ p1).cm (sgs_cons (g_name (Ctx.bk c.toCtx s1 Z1 _ _ p1) 6) (sgs_cons (g_name (Ctx.bk c.toCtx s1 Z1 _ _ p1) 7) (sgs_cons (g_name (Ctx.bk c.toCtx s1 Z1 _ _ p1) 8) (sgs_cons (g_name (Ctx.bk c.toCtx s1 Z1 _ _ p1) 9) sgs_nil)))))) (fun s1 Z1 D1 l1 p1 => sts_nil) (fun s1 Z1 D1 l1 p1 => (w_v 9))))))
  (sb_cons (z_set c.toCtx 2 (se_new (sf_lst sa_nil)))
  (sb_cons (z_set c.toCtx 3 (w_call c.toCtx (H_first_way) (sa_cons (w_v 0) (sa_cons (w_v 1) sa_nil)) ))
  (sb_cons (z_while c (t_notN c.toCtx (w_v 3) se_non) (sb_cons (z_set c.toCtx 4 (w_min1X c.toCtx m_min (sa_cons (se_dat (sf_comp c.toCtx.cm c.toCtx.nd (own := [("r", 5)]) (si_v (w_v 3)) (blkOk_by (by rfl)) (by decide) (fun s3 Z3 D3 l3 p3 => (g_name (Ctx.bk c.toCtx s3 Z3 _ _ p3) 5)) (fun s3 Z3 D3 l3 p3 => sts_nil) (fun s3 Z3 D3 l3 p3 => (w_ix (Ctx.bk c.toCtx s3 Z3 _ _ p3) (w_v 1) (w_v 5))))) sa_nil)))
  (sb_cons (z_for c (si_v (w_v 3)) (g_name c.toCtx 5) (sb_one (ss_augIx (w_v 1) (w_v 5) (w_v 4) ip_sub)))
  (sb_cons (ss_expr (se_append (w_v 2) (sa_cons (se_tup (sa_cons (w_sum c.toCtx m_sum (sa_cons (se_dat (sf_comp c.toCtx.cm c.toCtx.nd (own := [("r", 5)]) (si_v (w_v 3)) (blkOk_by (by rfl)) (by decide) (fun s4 Z4 D4 l4 p4 => (g_name (Ctx.bk c.toCtx s4 Z4 _ _ p4) 5)) (fun s4 Z4 D4 l4 p4 => sts_nil) (fun s4 Z4 D4 l4 p4 => (w_ix (Ctx.bk c.toCtx s4 Z4 _ _ p4) (w_ix (Ctx.bk c.toCtx s4 Z4 _ _ p4) (w_ix (Ctx.bk c.toCtx s4 Z4 _ _ p4) (w_v 0) se_int) (w_v 5)) se_int)))) sa_nil)) (sa_cons (w_v 4) (sa_cons (w_v 3) sa_nil)))) sa_nil)))
  (sb_one (z_set c.toCtx 3 (w_call c.toCtx (H_first_way) (sa_cons (w_v 0) (sa_cons (w_v 1) sa_nil)) )))))))
  (sb_one (ss_ret (w_v 2)))))))
theorem H_hurried (D : Def K mg "hurried" (top 33)) (H_look_at_web : Has P w K mg base "look_at_web" p_look_at_web 5 F_look_at_web) (H_found_hurried : HasF P w K mg base "found_hurried" p_found_hurried 3 F_found_hurried) : HasF P w K mg base "hurried" p_hurried 6 F_hurried :=
  hasF_of (k := 5) D bi_hurried (N := N_hurried) sc_hurried rfl (by decide) fun f cdv A outer s H E c =>
  (sb_cons (ss_expr (w_call c.toCtx (H_look_at_web) (sa_cons (w_v 0) sa_nil) ))
  (sb_one (ss_retF (w_callF c.toCtx (H_found_hurried) (sa_cons (w_v 0) sa_nil) ))))
theorem H_found_rows (D : Def K mg "found_rows" (top 34)) (H_found_hurried : HasF P w K mg base "found_hurried" p_found_hurried 3 F_found_hurried) : Has P w K mg base "found_rows" p_found_rows 4 F_found_rows :=
  has_of (k := 3) D bi_found_rows (N := N_found_rows) sc_found_rows rfl (by decide) fun f cdv A outer s H E c =>
  (sb_one (ss_ret (se_dat (sf_comp c.toCtx.cm c.toCtx.nd (own := [("length", 1), ("n", 2), ("way", 3)]) (si_v (se_dat (w_callF c.toCtx (H_found_hurried) (sa_cons (w_v 0) sa_nil) ))) (blkOk_by (by rfl)) (by decide) (fun s1 Z1 D1 l1 p1 => (sg_tup (Ctx.bk c.toCtx s1 Z1 _ _ p1).cm (sgs_cons (g_name (Ctx.bk c.toCtx s1 Z1 _ _ p1) 1) (sgs_cons (g_name (Ctx.bk c.toCtx s1 Z1 _ _ p1) 2) (sgs_cons (g_name (Ctx.bk c.toCtx s1 Z1 _ _ p1) 3) sgs_nil))))) (fun s1 Z1 D1 l1 p1 => sts_nil) (fun s1 Z1 D1 l1 p1 => (se_tup (sa_cons (w_v 1) (sa_cons (w_v 2) sa_nil))))))))
theorem H_arcs (D : Def K mg "arcs" (top 22)) (m_enumerate : mg "enumerate" = none) : Has P w K mg base "arcs" p_arcs 1 F_arcs :=
  has_of (k := 0) D bi_arcs (N := N_arcs) sc_arcs rfl (by decide) fun f cdv A outer s H E c =>
  (sb_cons (z_set c.toCtx 2 (se_new (sf_lst sa_nil)))
  (sb_cons (z_for c (si_enum rfl m_enumerate (sa_cons (w_ix c.toCtx (w_v 0) se_int) sa_nil)) (sg_tup c.toCtx.cm (sgs_cons (g_name c.toCtx 3) (sgs_cons (sg_tup c.toCtx.cm (sgs_cons (g_name c.toCtx 4) (sgs_cons (g_name c.toCtx 5) (sgs_cons (g_name c.toCtx 6) (sgs_cons (g_name c.toCtx 7) sgs_nil))))) sgs_nil))) (sb_cons (ss_if (t_lt c.toCtx (w_ix c.toCtx (w_v 1) (w_v 3)) (w_v 7)) (sb_one (ss_expr (se_append (w_v 2) (sa_cons (se_tup (sa_cons (w_v 4) (sa_cons (w_v 5) (sa_cons (w_v 6) (sa_cons (w_v 3) (sa_cons (w_sub (w_v 7) (w_ix c.toCtx (w_v 1) (w_v 3))) sa_nil)))))) sa_nil)))) sb_nil)
  (sb_one (ss_if (t_gt c.toCtx (w_ix c.toCtx (w_v 1) (w_v 3)) se_int) (sb_one (ss_expr (se_append (w_v 2) (sa_cons (se_tup (sa_cons (w_v 5) (sa_cons (w_v 4) (sa_cons (se_neg (w_v 6)) (sa_cons (w_v 3) (sa_cons (w_ix c.toCtx (w_v 1) (w_v 3)) sa_nil)))))) sa_nil)))) sb_nil))))
  (sb_one (ss_ret (w_v 2)))))
theorem H_distances (D : Def K mg "distances" (top 23)) (m_range : mg "range" = none) (H_arcs : Has P w K mg base "arcs" p_arcs 1 F_arcs) : Has P w K mg base "distances" p_distances 2 F_distances :=
  has_of (k := 1) D bi_distances (N := N_distances) sc_distances rfl (by decide) fun f cdv A outer s H E c =>
  (sb_cons (by first | exact ss_newDcompIt (i := 2) (j := 3) c.toCtx.cm c.toCtx.nd rfl rfl rfl (own := [("place", 9), ("number", 7)]) (blkOk_by (by rfl)) (by decide) (fun s2 Z2 D2 l2 p2 => (sg_tup (Ctx.bk c.toCtx s2 Z2 _ _ p2).cm (sgs_cons (g_name (Ctx.bk c.toCtx s2 Z2 _ _ p2) 9) (sgs_cons (g_name (Ctx.bk c.toCtx s2 Z2 _ _ p2) 7) sgs_nil)))) (fun s2 Z2 D2 l2 p2 => sts_nil) (fun s2 Z2 D2 l2 p2 => (w_v 9)) (fun s2 Z2 D2 l2 p2 => (se_tup (sa_cons (w_v 7) (sa_cons se_int (sa_cons se_non sa_nil))))) | exact (z_set c.toCtx 3 (se_new (sf_dcompIt (i := 2) c.toCtx.cm c.toCtx.nd (own := [("place", 9), ("number", 7)]) (blkOk_by (by rfl)) (by decide) (fun s1 Z1 D1 l1 p1 => (sg_tup (Ctx.bk c.toCtx s1 Z1 _ _ p1).cm (sgs_cons (g_name (Ctx.bk c.toCtx s1 Z1 _ _ p1) 9) (sgs_cons (g_name (Ctx.bk c.toCtx s1 Z1 _ _ p1) 7) sgs_nil)))) (fun s1 Z1 D1 l1 p1 => sts_nil) (fun s1 Z1 D1 l1 p1 => (w_v 9)) (fun s1 Z1 D1 l1 p1 => (se_tup (sa_cons (w_v 7) (sa_cons se_int (sa_cons se_non sa_nil)))))))))
  (sb_cons (z_set c.toCtx 4 (w_call c.toCtx (H_arcs) (sa_cons (w_v 0) (sa_cons (w_v 1) sa_nil)) ))
  (sb_cons (z_for c (si_r1 rfl m_range (sa_cons (w_ix c.toCtx (w_v 0) se_int) sa_nil)) (g_name c.toCtx 5) (sb_one (z_for c (si_v (w_v 4)) (g_name c.toCtx 6) (sb_one (ss_if (t_in c.toCtx (w_ix c.toCtx (w_v 6) se_int) (w_v 3)) (sb_cons (ss_par c.toCtx.cm c.toCtx.nd (i := 7) (j := 8) rfl rfl (by decide) rfl rfl (sa_cons (w_add (w_ix c.toCtx (w_ix c.toCtx (w_v 3) (w_ix c.toCtx (w_v 6) se_int)) se_int) (w_ix c.toCtx (w_v 6) se_int)) (sa_cons (w_add (w_ix c.toCtx (w_ix c.toCtx (w_v 3) (w_ix c.toCtx (w_v 6) se_int)) se_int) se_int) sa_nil)) rfl)
  (sb_one (ss_if (st_w (sw_or (t_notIn c.toCtx (w_ix c.toCtx (w_v 6) se_int) (w_v 3)) (sw_or1 (t_lt c.toCtx (se_tup (sa_cons (w_v 7) (sa_cons (w_v 8) sa_nil))) (se_sl (w_ix c.toCtx (w_v 3) (w_ix c.toCtx (w_v 6) se_int)) so_none (so_some se_int)))))) (sb_one (ss_asg (se_tup (sa_cons (w_v 7) (sa_cons (w_v 8) (sa_cons (w_v 6) sa_nil)))) (sg_ix c.toCtx.u1 (w_v 3) (w_ix (Ctx.fx c.toCtx) (w_v 6) se_int)))) sb_nil))) sb_nil)))))
  (sb_one (ss_ret (w_v 3))))))
theorem H_shortest (D : Def K mg "shortest" (top 24)) (H_distances : Has P w K mg base "distances" p_distances 2 F_distances) : Has P w K mg base "shortest" p_shortest 3 F_shortest :=
  has_of (k := 2) D bi_shortest (N := N_shortest) sc_shortest rfl (by decide) fun f cdv A outer s H E c =>
  (sb_cons (z_set c.toCtx 2 (w_call c.toCtx (H_distances) (sa_cons (w_v 0) (sa_cons (w_v 1) (sa_cons (se_new (sf_disp (sps_cons (w_ix (Ctx.fx c.toCtx) (w_v 0) se_int) se_int sps_nil))) sa_nil))) ))
  (sb_cons (ss_if (t_notIn c.toCtx (w_ix c.toCtx (w_v 0) se_int) (w_v 2)) (sb_one (ss_ret se_non)) sb_nil)
  (sb_cons (z_set c.toCtx 3 (se_new (sf_lst sa_nil)))
  (sb_cons (z_set c.toCtx 4 (w_ix c.toCtx (w_v 0) se_int))
  (sb_cons (z_while c (t_notN c.toCtx (w_ix c.toCtx (w_ix c.toCtx (w_v 2) (w_v 4)) se_int) se_non) (sb_cons (ss_expr (se_append (w_v 3) (sa_cons (w_ix c.toCtx (w_ix c.toCtx (w_v 2) (w_v 4)) se_int) sa_nil)))
  (sb_one (z_set c.toCtx 4 (w_ix c.toCtx (w_ix c.toCtx (w_ix c.toCtx (w_v 2) (w_v 4)) se_int) se_int)))))
  (sb_one (ss_ret (se_tup (sa_cons (w_ix c.toCtx (w_ix c.toCtx (w_v 2) (w_ix c.toCtx (w_v 0) se_int)) se_int) (sa_cons (w_v 3) sa_nil))))))))))
theorem H_taken (D : Def K mg "taken" (top 25)) (m_len : mg "len" = none) (m_min : mg "min" = none) (m_sorted : mg "sorted" = none) (H_shortest : Has P w K mg base "shortest" p_shortest 3 F_shortest) : Has P w K mg base "taken" p_taken 4 F_taken :=
  has_of (k := 3) D bi_taken (N := N_taken) sc_taken rfl (by decide) fun f cdv A outer s H E c =>
  (sb_cons (z_set c.toCtx 2 (se_new (sf_rep (se_dat (sf_lst (sa_cons se_int sa_nil))) (w_len m_len (sa_cons (w_ix c.toCtx (w_v 0) se_int) sa_nil)))))
  (sb_cons (z_set c.toCtx 3 (se_new sf_d0))
  (sb_cons (z_set c.toCtx 4 (w_call c.toCtx (H_shortest) (sa_cons (w_v 0) (sa_cons (w_v 2) sa_nil)) ))
  (sb_cons (z_while c (st_w (sw_and (t_notN c.toCtx (w_v 4) se_non) (sw_and1 (st_w (sw_or (t_isN c.toCtx (w_v 1) se_non) (sw_or1 (t_le c.toCtx (w_ix c.toCtx (w_v 4) se_int) (w_v 1)))))))) (sb_cons (ss_asg (w_v 4) (sg_tup c.toCtx.cm (sgs_cons (g_name c.toCtx 7) (sgs_cons (g_name c.toCtx 8) sgs_nil))))
  (sb_cons (z_set c.toCtx 5 (w_min1X c.toCtx m_min (sa_cons (se_dat (sf_comp c.toCtx.cm c.toCtx.nd (own := [("arc", 6)]) (si_v (w_v 8)) (blkOk_by (by rfl)) (by decide) (fun s1 Z1 D1 l1 p1 => (g_name (Ctx.bk c.toCtx s1 Z1 _ _ p1) 6)) (fun s1 Z1 D1 l1 p1 => sts_nil) (fun s1 Z1 D1 l1 p1 => (w_ix (Ctx.bk c.toCtx s1 Z1 _ _ p1) (w_v 6) se_int)))) sa_nil)))
  (sb_cons (z_for c (si_v (w_v 8)) (g_name c.toCtx 6) (sb_one (ss_augIx (w_v 2) (w_ix c.toCtx (w_v 6) se_int) (se_ifExp (t_gt c.toCtx (w_ix c.toCtx (w_v 6) se_int) se_int) (w_v 5) (se_neg (w_v 5))) ip_add)))
  (sb_cons (ss_asg (w_add (se_get2 c.toCtx (w_v 3) (w_v 7) se_int) (w_v 5)) (sg_ix c.toCtx.u1 (w_v 3) (w_v 7)))
  (sb_one (z_set c.toCtx 4 (w_call c.toCtx (H_shortest) (sa_cons (w_v 0) (sa_cons (w_v 2) sa_nil)) ))))))))
  (sb_one (ss_ret (se_tup (sa_cons (se_dat (sf_sortIt (i := 3) c.toCtx.cm m_sorted)) (sa_cons (w_v 2) sa_nil)))))))))
theorem H_found_chains (D : Def K mg "found_chains" (top 26)) (H_taken : Has P w K mg base "taken" p_taken 4 F_taken) : Has P w K mg base "found_chains" p_found_chains 5 F_found_chains :=
  has_of (k := 4) D bi_found_chains (N := N_found_chains) sc_found_chains rfl (by decide) fun f cdv A outer s H E c =>
  (sb_one (ss_ret (w_ix c.toCtx (w_call c.toCtx (H_taken) (sa_cons (w_v 0) (sa_cons se_non sa_nil)) ) se_int)))
theorem H_brought (D : Def K mg "brought" (top 27)) (m_max : mg "max" = none) (m_sum : mg "sum" = none) : Has P w K mg base "brought" p_brought 1 F_brought :=
  has_of (k := 0) D bi_brought (N := N_brought) sc_brought rfl (by decide) fun f cdv A outer s H E c =>
  (sb_one (ss_ret (w_sum c.toCtx m_sum (sa_cons (se_dat (sf_comp c.toCtx.cm c.toCtx.nd (own := [("length", 2), ("width", 3)]) (si_v (w_v 0)) (blkOk_by (by rfl)) (by decide) (fun s1 Z1 D1 l1 p1 => (sg_tup (Ctx.bk c.toCtx s1 Z1 _ _ p1).cm (sgs_cons (g_name (Ctx.bk c.toCtx s1 Z1 _ _ p1) 2) (sgs_cons (g_name (Ctx.bk c.toCtx s1 Z1 _ _ p1) 3) sgs_nil)))) (fun s1 Z1 D1 l1 p1 => sts_nil) (fun s1 Z1 D1 l1 p1 => (w_mul (w_v 3) (w_max2 (Ctx.bk c.toCtx s1 Z1 _ _ p1) m_max (sa_cons se_int (sa_cons (w_sub (w_add (w_v 1) se_int) (w_v 2)) sa_nil))))))) sa_nil))))
theorem H_found_short (D : Def K mg "found_short" (top 37)) (m_min : mg "min" = none) (H_found_rows : Has P w K mg base "found_rows" p_found_rows 4 F_found_rows) (H_found_chains : Has P w K mg base "found_chains" p_found_chains 5 F_found_chains) (H_brought : Has P w K mg base "brought" p_brought 1 F_brought) : Has P w K mg base "found_short" p_found_short 6 F_found_short :=
  has_of (k := 5) D bi_found_short (N := N_found_short) sc_found_short rfl (by decide) fun f cdv A outer s H E c =>
  (sb_cons (ss_asg (se_tup (sa_cons (w_call c.toCtx (H_found_chains) (sa_cons (w_v 0) sa_nil) ) (sa_cons (w_call c.toCtx (H_found_rows) (sa_cons (w_v 0) sa_nil) ) sa_nil))) (sg_tup c.toCtx.cm (sgs_cons (g_name c.toCtx 1) (sgs_cons (g_name c.toCtx 2) sgs_nil))))
  (sb_cons (by first | exact ss_setComp c.toCtx.cm c.toCtx.nd (i := 3) rfl rfl rfl (own := [("t", 4), ("width", 5)]) (si_v (w_v 1)) (blkOk_by (by rfl)) (by decide) (fun s2 Z2 D2 l2 p2 => (sg_tup (Ctx.bk c.toCtx s2 Z2 _ _ p2).cm (sgs_cons (g_name (Ctx.bk c.toCtx s2 Z2 _ _ p2) 4) (sgs_cons (g_name (Ctx.bk c.toCtx s2 Z2 _ _ p2) 5) sgs_nil)))) (fun s2 Z2 D2 l2 p2 => sts_nil) (fun s2 Z2 D2 l2 p2 => (se_tup (sa_cons (w_v 4) (sa_cons (w_sub (w_call (Ctx.bk c.toCtx s2 Z2 _ _ p2) (H_brought) (sa_cons (w_v 1) (sa_cons (w_v 4) sa_nil)) ) (w_call (Ctx.bk c.toCtx s2 Z2 _ _ p2) (H_brought) (sa_cons (w_v 2) (sa_cons (w_v 4) sa_nil)) )) sa_nil)))) | exact (z_set c.toCtx 3 (se_dat (sf_comp c.toCtx.cm c.toCtx.nd (own := [("t", 4), ("width", 5)]) (si_v (w_v 1)) (blkOk_by (by rfl)) (by decide) (fun s1 Z1 D1 l1 p1 => (sg_tup (Ctx.bk c.toCtx s1 Z1 _ _ p1).cm (sgs_cons (g_name (Ctx.bk c.toCtx s1 Z1 _ _ p1) 4) (sgs_cons (g_name (Ctx.bk c.toCtx s1 Z1 _ _ p1) 5) sgs_nil)))) (fun s1 Z1 D1 l1 p1 => sts_nil) (fun s1 Z1 D1 l1 p1 => (se_tup (sa_cons (w_v 4) (sa_cons (w_sub (w_call (Ctx.bk c.toCtx s1 Z1 _ _ p1) (H_brought) (sa_cons (w_v 1) (sa_cons (w_v 4) sa_nil)) ) (w_call (Ctx.bk c.toCtx s1 Z1 _ _ p1) (H_brought) (sa_cons (w_v 2) (sa_cons (w_v 4) sa_nil)) )) sa_nil))))))))
  (sb_one (ss_ret (se_minDef c.toCtx m_min (sa_cons (se_dat (sf_comp c.toCtx.cm c.toCtx.nd (own := [("one", 6)]) (si_v (w_v 3)) (blkOk_by (by rfl)) (by decide) (fun s3 Z3 D3 l3 p3 => (g_name (Ctx.bk c.toCtx s3 Z3 _ _ p3) 6)) (fun s3 Z3 D3 l3 p3 => (sts_one (t_gt (Ctx.bk c.toCtx s3 Z3 _ _ p3) (w_ix (Ctx.bk c.toCtx s3 Z3 _ _ p3) (w_v 6) se_int) se_int))) (fun s3 Z3 D3 l3 p3 => (w_v 6)))) sa_nil) se_non)))))
theorem H_short_from (D : Def K mg "short_from" (top 38)) (H_look_at_web : Has P w K mg base "look_at_web" p_look_at_web 5 F_look_at_web) (H_found_short : Has P w K mg base "found_short" p_found_short 6 F_found_short) : Has P w K mg base "short_from" p_short_from 7 F_short_from :=
  has_of (k := 6) D bi_short_from (N := N_short_from) sc_short_from rfl (by decide) fun f cdv A outer s H E c =>
  (sb_cons (ss_expr (w_call c.toCtx (H_look_at_web) (sa_cons (w_v 0) sa_nil) ))
  (sb_one (ss_ret (w_call c.toCtx (H_found_short) (sa_cons (w_v 0) sa_nil) ))))
theorem H_look_at_moment (D : Def K mg "look_at_moment" (top 19)) (E_NoMoment : ExcF K mg "NoMoment") (H_is_whole : Has P w K mg base "is_whole" p_is_whole 1 F_is_whole) : Has P w K mg base "look_at_moment" p_look_at_moment 2 F_look_at_moment :=
  has_of (k := 1) D bi_look_at_moment (N := N_look_at_moment) sc_look_at_moment rfl (by decide) fun f cdv A outer s H E c =>
  (sb_one (ss_if (st_not (st_val (w_call c.toCtx (H_is_whole) (sa_cons (w_v 0) sa_nil) ))) (sb_one (ss_raise c.toCtx E_NoMoment)) sb_nil))
theorem H_hurried_most (D : Def K mg "hurried_most" (top 35)) (H_look_at_web : Has P w K mg base "look_at_web" p_look_at_web 5 F_look_at_web) (H_look_at_moment : Has P w K mg base "look_at_moment" p_look_at_moment 2 F_look_at_moment) (H_brought : Has P w K mg base "brought" p_brought 1 F_brought) (H_found_rows : Has P w K mg base "found_rows" p_found_rows 4 F_found_rows) : Has P w K mg base "hurried_most" p_hurried_most 6 F_hurried_most :=
  has_of (k := 5) D bi_hurried_most (N := N_hurried_most) sc_hurried_most rfl (by decide) fun f cdv A outer s H E c =>
  (sb_cons (ss_expr (w_call c.toCtx (H_look_at_web) (sa_cons (w_v 0) sa_nil) ))
  (sb_cons (ss_expr (w_call c.toCtx (H_look_at_moment) (sa_cons (w_v 1) sa_nil) ))
  (sb_one (ss_ret (w_call c.toCtx (H_brought) (sa_cons (w_call c.toCtx (H_found_rows) (sa_cons (w_v 0) sa_nil) ) (sa_cons (w_v 1) sa_nil)) )))))
theorem H_look_at_number (D : Def K mg "look_at_number" (top 20)) (E_NoNumber : ExcF K mg "NoNumber") (H_is_more : Has P w K mg base "is_more" p_is_more 2 F_is_more) : Has P w K mg base "look_at_number" p_look_at_number 3 F_look_at_number :=
  has_of (k := 2) D bi_look_at_number (N := N_look_at_number) sc_look_at_number rfl (by decide) fun f cdv A outer s H E c =>
  (sb_one (ss_if (st_not (st_val (w_call c.toCtx (H_is_more) (sa_cons (w_v 0) sa_nil) ))) (sb_one (ss_raise c.toCtx E_NoNumber)) sb_nil))
theorem H_time_for (D : Def K mg "time_for" (top 28)) (H_brought : Has P w K mg base "brought" p_brought 1 F_brought) : Has P w K mg base "time_for" p_time_for 2 F_time_for :=
  has_of (k := 1) D bi_time_for (N := N_time_for) sc_time_for rfl (by decide) fun f cdv A outer s H E c =>
  (sb_cons (ss_if (t_eq c.toCtx (w_v 0) (se_dat (sf_lst sa_nil))) (sb_one (ss_ret se_non)) sb_nil)
  (sb_cons (ss_par c.toCtx.cm c.toCtx.nd (i := 2) (j := 3) rfl rfl (by decide) rfl rfl (sa_cons (se_neg se_int) (sa_cons (w_add (w_ix c.toCtx (w_ix c.toCtx (w_v 0) se_int) se_int) (w_v 1)) sa_nil)) rfl)
  (sb_cons (z_while c (t_gt c.toCtx (w_sub (w_v 3) (w_v 2)) se_int) (sb_cons (z_set c.toCtx 4 (w_div (w_add (w_v 2) (w_v 3)) se_int))
  (sb_one (ss_asg (se_ifExp (t_ge c.toCtx (w_call c.toCtx (H_brought) (sa_cons (w_v 0) (sa_cons (w_v 4) sa_nil)) ) (w_v 1)) (se_tup (sa_cons (w_v 2) (sa_cons (w_v 4) sa_nil))) (se_tup (sa_cons (w_v 4) (sa_cons (w_v 3) sa_nil)))) (sg_tup c.toCtx.cm (sgs_cons (g_name c.toCtx 2) (sgs_cons (g_name c.toCtx 3) sgs_nil)))))))
  (sb_one (ss_ret (w_v 3))))))
theorem H_hurried_time (D : Def K mg "hurried_time" (top 36)) (H_look_at_web : Has P w K mg base "look_at_web" p_look_at_web 5 F_look_at_web) (H_look_at_number : Has P w K mg base "look_at_number" p_look_at_number 3 F_look_at_number) (H_time_for : Has P w K mg base "time_for" p_time_for 2 F_time_for) (H_found_rows : Has P w K mg base "found_rows" p_found_rows 4 F_found_rows) : Has P w K mg base "hurried_time" p_hurried_time 6 F_hurried_time :=
  has_of (k := 5) D bi_hurried_time (N := N_hurried_time) sc_hurried_time rfl (by decide) fun f cdv A outer s H E c =>
  (sb_cons (ss_expr (w_call c.toCtx (H_look_at_web) (sa_cons (w_v 0) sa_nil) ))
  (sb_cons (ss_expr (w_call c.toCtx (H_look_at_number) (sa_cons (w_v 1) sa_nil) ))
  (sb_one (ss_ret (w_call c.toCtx (H_time_for) (sa_cons (w_call c.toCtx (H_found_rows) (sa_cons (w_v 0) sa_nil) ) (sa_cons (w_v 1) sa_nil)) )))))
theorem H__law_word_of (D : Def K mg "_law_word_of" (top 48)) (m_ValueError : mg "ValueError" = none) (m_int : mg "int" = none) (m_isinstance : mg "isinstance" = none) (m_zip : mg "zip" = none) (EA : ExcAll K mg) : Has P w K mg base "_law_word_of" p__law_word_of 1 F_l_word_of :=
  has_of (k := 0) D bi__law_word_of (N := N__law_word_of) sc__law_word_of rfl (by decide) fun f cdv A outer s H E c =>
  (sb_cons (z_set c.toCtx 1 (se_dat (sf_lst (sa_cons (se_isE EA rfl m_isinstance (w_v 0)) (sa_cons (se_isE EA rfl m_isinstance (w_v 0)) (sa_cons (se_isE EA rfl m_isinstance (w_v 0)) sa_nil))))))
  (sb_cons (z_set c.toCtx 1 (w_add (w_v 1) (se_dat (sf_lst (sa_cons (se_isE EA rfl m_isinstance (w_v 0)) (sa_cons (se_isE EA rfl m_isinstance (w_v 0)) (sa_cons (se_isE EA rfl m_isinstance (w_v 0)) sa_nil)))))))
  (sb_cons (z_set c.toCtx 1 (w_add (w_v 1) (se_dat (sf_lst (sa_cons (se_isE EA rfl m_isinstance (w_v 0)) (sa_cons (se_isE EA rfl m_isinstance (w_v 0)) (sa_cons (se_isE EA rfl m_isinstance (w_v 0)) sa_nil)))))))
  (sb_cons (z_set c.toCtx 1 (w_add (w_v 1) (se_dat (sf_lst (sa_cons (se_isE EA rfl m_isinstance (w_v 0)) (sa_cons (se_isV EA rfl m_isinstance m_ValueError (w_v 0)) (sa_cons (se_isE EA rfl m_isinstance (w_v 0)) sa_nil)))))))
  (sb_cons (z_set c.toCtx 2 (se_dat (sf_lst (sa_cons se_str (sa_cons se_str (sa_cons se_str (sa_cons se_str (sa_cons se_str (sa_cons se_str (sa_cons se_str (sa_cons se_str (sa_cons se_str (sa_cons se_str (sa_cons se_str (sa_cons se_str sa_nil)))))))))))))))
  (sb_cons (by first | exact ss_setComp c.toCtx.cm c.toCtx.nd (i := 3) rfl rfl rfl (own := [("_law_word", 4), ("_law_truth", 5)]) (si_zip rfl m_zip (sa_cons (w_v 2) (sa_cons (w_v 1) sa_nil))) (blkOk_by (by rfl)) (by decide) (fun s2 Z2 D2 l2 p2 => (sg_tup (Ctx.bk c.toCtx s2 Z2 _ _ p2).cm (sgs_cons (g_name (Ctx.bk c.toCtx s2 Z2 _ _ p2) 4) (sgs_cons (g_name (Ctx.bk c.toCtx s2 Z2 _ _ p2) 5) sgs_nil)))) (fun s2 Z2 D2 l2 p2 => (sts_one (st_val (w_v 5)))) (fun s2 Z2 D2 l2 p2 => (w_v 4)) | exact (z_set c.toCtx 3 (se_dat (sf_comp c.toCtx.cm c.toCtx.nd (own := [("_law_word", 4), ("_law_truth", 5)]) (si_zip rfl m_zip (sa_cons (w_v 2) (sa_cons (w_v 1) sa_nil))) (blkOk_by (by rfl)) (by decide) (fun s1 Z1 D1 l1 p1 => (sg_tup (Ctx.bk c.toCtx s1 Z1 _ _ p1).cm (sgs_cons (g_name (Ctx.bk c.toCtx s1 Z1 _ _ p1) 4) (sgs_cons (g_name (Ctx.bk c.toCtx s1 Z1 _ _ p1) 5) sgs_nil)))) (fun s1 Z1 D1 l1 p1 => (sts_one (st_val (w_v 5)))) (fun s1 Z1 D1 l1 p1 => (w_v 4))))))
  (sb_cons (ss_if (t_eq c.toCtx (w_v 3) (se_dat (sf_lst sa_nil))) (sb_one (ss_ret se_str)) sb_nil)
  (sb_one (ss_ret (w_ix c.toCtx (se_dat (sf_lst (sa_cons (w_ix c.toCtx (w_v 3) se_int) (sa_cons se_str sa_nil)))) (w_int m_int (sa_cons (w_ne c.toCtx (se_sl (w_v 3) (so_some se_int) so_none) (se_dat (sf_lst (sa_cons se_str (sa_cons se_str sa_nil))))) sa_nil))))))))))))
theorem H__law_asked (D : Def K mg "_law_asked" (top 49)) (m_repr : mg "repr" = none) (EA : ExcAll K mg) (H_hurried : HasF P w K mg base "hurried" p_hurried 6 F_hurried) (H_short_from : Has P w K mg base "short_from" p_short_from 7 F_short_from) (H_hurried_most : Has P w K mg base "hurried_most" p_hurried_most 6 F_hurried_most) (H_hurried_time : Has P w K mg base "hurried_time" p_hurried_time 6 F_hurried_time) (H__law_word_of : Has P w K mg base "_law_word_of" p__law_word_of 1 F_l_word_of) : Has P w K mg base "_law_asked" p__law_asked 8 F_l_asked_v2 :=
  has_of (k := 7) D bi__law_asked (N := N__law_asked) sc__law_asked rfl (by decide) fun f cdv A outer s H E c =>
  (sb_cons (z_set c.toCtx 3 (w_repr c.toCtx m_repr (sa_cons (se_dat (sf_lst (sa_cons (w_v 1) (sa_cons (w_v 2) sa_nil)))) sa_nil)))
  (sb_cons (z_set c.toCtx 4 se_non)
  (sb_cons (ss_try c EA (i := 5) (j := 4) (by decide) (fun Wt1 pt1 xt1 ct1 =>
  (sb_one (ss_if (t_eq ct1.toCtx (w_v 0) se_int) (sb_one (ss_expr (se_dat (w_callF ct1.toCtx (H_hurried) (sa_cons (w_v 1) sa_nil) )))) (sb_one (ss_if (t_eq ct1.toCtx (w_v 0) se_int) (sb_one (ss_expr (w_call ct1.toCtx (H_short_from) (sa_cons (w_v 1) sa_nil) ))) (sb_one (ss_if (t_eq ct1.toCtx (w_v 0) se_int) (sb_one (ss_expr (w_call ct1.toCtx (H_hurried_most) (sa_cons (w_v 1) (sa_cons (w_v 2) sa_nil)) ))) (sb_one (ss_expr (w_call ct1.toCtx (H_hurried_time) (sa_cons (w_v 1) (sa_cons (w_v 2) sa_nil)) )))))))))))
  (sb_cons (ss_if (t_ne c.toCtx (w_repr c.toCtx m_repr (sa_cons (se_dat (sf_lst (sa_cons (w_v 1) (sa_cons (w_v 2) sa_nil)))) sa_nil)) (w_v 3)) (sb_one (ss_ret se_str)) sb_nil)
  (sb_one (ss_ret (w_call c.toCtx (H__law_word_of) (sa_cons (w_v 4) sa_nil) )))))))
theorem H__law_bad_moments (D : Def K mg "_law_bad_moments" (top 46)) : Has P w K mg base "_law_bad_moments" p__law_bad_moments 1 F_l_bad_moments :=
  has_of (k := 0) D bi__law_bad_moments (N := N__law_bad_moments) sc__law_bad_moments rfl (by decide) fun f cdv A outer s H E c =>
  (sb_one (ss_ret (se_dat (sf_lst (sa_cons se_non (sa_cons (se_neg se_int) (sa_cons se_bl (sa_cons se_bl (sa_cons se_str (sa_cons (se_tup (sa_cons se_int sa_nil)) (sa_cons (se_dat (sf_lst (sa_cons se_int sa_nil))) (sa_cons (se_neg (w_pow se_int se_int)) (sa_cons se_str sa_nil)))))))))))))
theorem H__law_bad_numbers (D : Def K mg "_law_bad_numbers" (top 47)) : Has P w K mg base "_law_bad_numbers" p__law_bad_numbers 1 F_l_bad_numbers :=
  has_of (k := 0) D bi__law_bad_numbers (N := N__law_bad_numbers) sc__law_bad_numbers rfl (by decide) fun f cdv A outer s H E c =>
  (sb_one (ss_ret (se_dat (sf_lst (sa_cons se_non (sa_cons se_int (sa_cons (se_neg se_int) (sa_cons se_bl (sa_cons se_bl (sa_cons se_str (sa_cons (se_tup (sa_cons se_int sa_nil)) (sa_cons (se_dat (sf_lst (sa_cons se_int sa_nil))) (sa_cons (se_neg (w_pow se_int se_int)) (sa_cons se_str sa_nil))))))))))))))
theorem H_law (D : Def K mg "law" (top 50)) (m_len : mg "len" = none) (m_max : mg "max" = none) (m_min : mg "min" = none) (m_range : mg "range" = none) (H__law_web : Has P w K mg base "_law_web" p__law_web 3 F_l_web) (H__law_pile : HasF P w K mg base "_law_pile" p__law_pile 2 F_l_pile) (H__law_bad_webs : Has P w K mg base "_law_bad_webs" p__law_bad_webs 1 F_l_bad_webs) (H__law_asked : Has P w K mg base "_law_asked" p__law_asked 8 F_l_asked_v2) (H__law_bad_moments : Has P w K mg base "_law_bad_moments" p__law_bad_moments 1 F_l_bad_moments) (H__law_bad_numbers : Has P w K mg base "_law_bad_numbers" p__law_bad_numbers 1 F_l_bad_numbers) : Has P w K mg base "law" p_law 9 F_law_k22 :=
  has_of (k := 8) D bi_law (N := N_law) sc_law rfl (by decide) fun f cdv A outer s H E c =>
  (sb_cons (z_for c (si_r1 rfl m_range (sa_cons (w_max2 c.toCtx m_max (sa_cons se_int (sa_cons (w_min2 c.toCtx m_min (sa_cons (w_len m_len (sa_cons (w_v 0) sa_nil)) (sa_cons se_int sa_nil))) sa_nil))) sa_nil)) (g_name c.toCtx 1) (sb_cons (z_set c.toCtx 2 (w_call c.toCtx (H__law_web) (sa_cons (se_new (w_callF c.toCtx (H__law_pile) (sa_cons (w_v 0) (sa_cons (w_v 1) sa_nil)) )) (sa_cons se_int sa_nil)) ))
  (sb_cons (z_for c (si_v (w_call0 c.toCtx (H__law_bad_webs) )) (g_name c.toCtx 3) (sb_cons (by first | exact ss_setComp c.toCtx.cm c.toCtx.nd (i := 4) rfl rfl rfl (own := [("_law_which", 5)]) (si_r1 rfl m_range (sa_cons se_int sa_nil)) (blkOk_by (by rfl)) (by decide) (fun s2 Z2 D2 l2 p2 => (g_name (Ctx.bk c.toCtx s2 Z2 _ _ p2) 5)) (fun s2 Z2 D2 l2 p2 => sts_nil) (fun s2 Z2 D2 l2 p2 => (w_call (Ctx.bk c.toCtx s2 Z2 _ _ p2) (H__law_asked) (sa_cons (w_v 5) (sa_cons (w_v 3) (sa_cons se_int sa_nil))) )) | exact (z_set c.toCtx 4 (se_dat (sf_comp c.toCtx.cm c.toCtx.nd (own := [("_law_which", 5)]) (si_r1 rfl m_range (sa_cons se_int sa_nil)) (blkOk_by (by rfl)) (by decide) (fun s1 Z1 D1 l1 p1 => (g_name (Ctx.bk c.toCtx s1 Z1 _ _ p1) 5)) (fun s1 Z1 D1 l1 p1 => sts_nil) (fun s1 Z1 D1 l1 p1 => (w_call (Ctx.bk c.toCtx s1 Z1 _ _ p1) (H__law_asked) (sa_cons (w_v 5) (sa_cons (w_v 3) (sa_cons se_int sa_nil))) ))))))
  (sb_one (ss_if (t_ne c.toCtx (w_add (w_v 4) (se_dat (sf_lst (sa_cons (w_call c.toCtx (H__law_asked) (sa_cons se_int (sa_cons (w_v 3) (sa_cons se_non sa_nil))) ) (sa_cons (w_call c.toCtx (H__law_asked) (sa_cons se_int (sa_cons (w_v 3) (sa_cons se_non sa_nil))) ) sa_nil))))) (w_mul (se_dat (sf_lst (sa_cons se_str sa_nil))) se_int)) (sb_one (ss_ret se_bl)) sb_nil))))
  (sb_cons (ss_if (t_ne c.toCtx (se_dat (sf_comp c.toCtx.cm c.toCtx.nd (own := [("_law_bad", 3)]) (si_v (w_call0 c.toCtx (H__law_bad_moments) )) (blkOk_by (by rfl)) (by decide) (fun s3 Z3 D3 l3 p3 => (g_name (Ctx.bk c.toCtx s3 Z3 _ _ p3) 3)) (fun s3 Z3 D3 l3 p3 => (sts_one (t_ne (Ctx.bk c.toCtx s3 Z3 _ _ p3) (w_call (Ctx.bk c.toCtx s3 Z3 _ _ p3) (H__law_asked) (sa_cons se_int (sa_cons (w_v 2) (sa_cons (w_v 3) sa_nil))) ) se_str))) (fun s3 Z3 D3 l3 p3 => (w_v 3)))) (se_dat (sf_lst sa_nil))) (sb_one (ss_ret se_bl)) sb_nil)
  (sb_cons (ss_if (t_ne c.toCtx (se_dat (sf_comp c.toCtx.cm c.toCtx.nd (own := [("_law_bad", 3)]) (si_v (w_call0 c.toCtx (H__law_bad_numbers) )) (blkOk_by (by rfl)) (by decide) (fun s4 Z4 D4 l4 p4 => (g_name (Ctx.bk c.toCtx s4 Z4 _ _ p4) 3)) (fun s4 Z4 D4 l4 p4 => (sts_one (t_ne (Ctx.bk c.toCtx s4 Z4 _ _ p4) (w_call (Ctx.bk c.toCtx s4 Z4 _ _ p4) (H__law_asked) (sa_cons se_int (sa_cons (w_v 2) (sa_cons (w_v 3) sa_nil))) ) se_str))) (fun s4 Z4 D4 l4 p4 => (w_v 3)))) (se_dat (sf_lst sa_nil))) (sb_one (ss_ret se_bl)) sb_nil)
  (sb_cons (z_set c.toCtx 4 (se_dat (sf_lst (sa_cons (w_call c.toCtx (H__law_asked) (sa_cons se_int (sa_cons (w_v 2) (sa_cons se_int sa_nil))) ) (sa_cons (w_call c.toCtx (H__law_asked) (sa_cons se_int (sa_cons (w_v 2) (sa_cons se_int sa_nil))) ) (sa_cons (w_call c.toCtx (H__law_asked) (sa_cons se_int (sa_cons (w_v 2) (sa_cons se_int sa_nil))) ) (sa_cons (w_call c.toCtx (H__law_asked) (sa_cons se_int (sa_cons (w_v 2) (sa_cons se_int sa_nil))) ) sa_nil)))))))
  (sb_one (ss_if (t_ne c.toCtx (w_v 4) (w_mul (se_dat (sf_lst (sa_cons se_str sa_nil))) se_int)) (sb_one (ss_ret se_bl)) sb_nil))))))))
  (sb_one (ss_ret se_bl)))
def d__law_take : He.DefD := ⟨("_law_take", none), "_law_take", "_law_take", defArgs (top 42), defBody (top 42), defScope (top 42), [], []⟩
def d__law_roads : He.DefD := ⟨("_law_roads", none), "_law_roads", "_law_roads", defArgs (top 43), defBody (top 43), defScope (top 43), [], []⟩
def d__law_web : He.DefD := ⟨("_law_web", none), "_law_web", "_law_web", defArgs (top 44), defBody (top 44), defScope (top 44), [], []⟩
def d__law_mixed : He.DefD := ⟨("_law_mixed", none), "_law_mixed", "_law_mixed", defArgs (top 40), defBody (top 40), defScope (top 40), [], []⟩
def d__law_pile : He.DefD := ⟨("_law_pile", none), "_law_pile", "_law_pile", defArgs (top 41), defBody (top 41), defScope (top 41), [], []⟩
def d__law_bad_webs : He.DefD := ⟨("_law_bad_webs", none), "_law_bad_webs", "_law_bad_webs", defArgs (top 45), defBody (top 45), defScope (top 45), [], []⟩
def d_is_whole : He.DefD := ⟨("is_whole", none), "is_whole", "is_whole", defArgs (top 13), defBody (top 13), defScope (top 13), [], []⟩
def d_is_place : He.DefD := ⟨("is_place", none), "is_place", "is_place", defArgs (top 15), defBody (top 15), defScope (top 15), [], []⟩
def d_is_more : He.DefD := ⟨("is_more", none), "is_more", "is_more", defArgs (top 14), defBody (top 14), defScope (top 14), [], []⟩
def d_is_road : He.DefD := ⟨("is_road", none), "is_road", "is_road", defArgs (top 16), defBody (top 16), defScope (top 16), [], []⟩
def d_is_right_web : He.DefD := ⟨("is_right_web", none), "is_right_web", "is_right_web", defArgs (top 17), defBody (top 17), defScope (top 17), [], []⟩
def d_look_at_web : He.DefD := ⟨("look_at_web", none), "look_at_web", "look_at_web", defArgs (top 18), defBody (top 18), defScope (top 18), [], []⟩
def d_lengths_to : He.DefD := ⟨("lengths_to", none), "lengths_to", "lengths_to", defArgs (top 30), defBody (top 30), defScope (top 30), [], []⟩
def d_first_way : He.DefD := ⟨("first_way", none), "first_way", "first_way", defArgs (top 31), defBody (top 31), defScope (top 31), [], []⟩
def d_found_hurried : He.DefD := ⟨("found_hurried", none), "found_hurried", "found_hurried", defArgs (top 32), defBody (top 32), defScope (top 32), [], []⟩
def d_hurried : He.DefD := ⟨("hurried", none), "hurried", "hurried", defArgs (top 33), defBody (top 33), defScope (top 33), [], []⟩
def d_found_rows : He.DefD := ⟨("found_rows", none), "found_rows", "found_rows", defArgs (top 34), defBody (top 34), defScope (top 34), [], []⟩
def d_arcs : He.DefD := ⟨("arcs", none), "arcs", "arcs", defArgs (top 22), defBody (top 22), defScope (top 22), [], []⟩
def d_distances : He.DefD := ⟨("distances", none), "distances", "distances", defArgs (top 23), defBody (top 23), defScope (top 23), [], []⟩
def d_shortest : He.DefD := ⟨("shortest", none), "shortest", "shortest", defArgs (top 24), defBody (top 24), defScope (top 24), [], []⟩
def d_taken : He.DefD := ⟨("taken", none), "taken", "taken", defArgs (top 25), defBody (top 25), defScope (top 25), [], []⟩
def d_found_chains : He.DefD := ⟨("found_chains", none), "found_chains", "found_chains", defArgs (top 26), defBody (top 26), defScope (top 26), [], []⟩
def d_brought : He.DefD := ⟨("brought", none), "brought", "brought", defArgs (top 27), defBody (top 27), defScope (top 27), [], []⟩
def d_found_short : He.DefD := ⟨("found_short", none), "found_short", "found_short", defArgs (top 37), defBody (top 37), defScope (top 37), [], []⟩
def d_short_from : He.DefD := ⟨("short_from", none), "short_from", "short_from", defArgs (top 38), defBody (top 38), defScope (top 38), [], []⟩
def d_look_at_moment : He.DefD := ⟨("look_at_moment", none), "look_at_moment", "look_at_moment", defArgs (top 19), defBody (top 19), defScope (top 19), [], []⟩
def d_hurried_most : He.DefD := ⟨("hurried_most", none), "hurried_most", "hurried_most", defArgs (top 35), defBody (top 35), defScope (top 35), [], []⟩
def d_look_at_number : He.DefD := ⟨("look_at_number", none), "look_at_number", "look_at_number", defArgs (top 20), defBody (top 20), defScope (top 20), [], []⟩
def d_time_for : He.DefD := ⟨("time_for", none), "time_for", "time_for", defArgs (top 28), defBody (top 28), defScope (top 28), [], []⟩
def d_hurried_time : He.DefD := ⟨("hurried_time", none), "hurried_time", "hurried_time", defArgs (top 36), defBody (top 36), defScope (top 36), [], []⟩
def d__law_word_of : He.DefD := ⟨("_law_word_of", none), "_law_word_of", "_law_word_of", defArgs (top 48), defBody (top 48), defScope (top 48), [], []⟩
def d__law_asked : He.DefD := ⟨("_law_asked", none), "_law_asked", "_law_asked", defArgs (top 49), defBody (top 49), defScope (top 49), [], []⟩
def d__law_bad_moments : He.DefD := ⟨("_law_bad_moments", none), "_law_bad_moments", "_law_bad_moments", defArgs (top 46), defBody (top 46), defScope (top 46), [], []⟩
def d__law_bad_numbers : He.DefD := ⟨("_law_bad_numbers", none), "_law_bad_numbers", "_law_bad_numbers", defArgs (top 47), defBody (top 47), defScope (top 47), [], []⟩
def d_law : He.DefD := ⟨("law", none), "law", "law", defArgs (top 50), defBody (top 50), defScope (top 50), [], []⟩
def fnl0 : List He.DefD := [d__law_take, d__law_roads, d__law_web, d__law_mixed, d__law_pile, d__law_bad_webs, d_is_whole, d_is_place, d_is_more, d_is_road, d_is_right_web, d_look_at_web, d_lengths_to, d_first_way, d_found_hurried, d_hurried, d_found_rows, d_arcs, d_distances, d_shortest, d_taken, d_found_chains, d_brought, d_found_short, d_short_from, d_look_at_moment, d_hurried_most, d_look_at_number, d_time_for, d_hurried_time]
def fnl1 : List He.DefD := [d__law_word_of, d__law_asked, d__law_bad_moments, d__law_bad_numbers, d_law]
def fnl : List He.DefD := fnl0 ++ fnl1
def fal0 : List He.Fa := [.glo "_law_take", .glo "_law_roads", .glo "_law_web", .glo "_law_mixed", .glo "_law_pile", .glo "_law_bad_webs", .glo "is_whole", .glo "is_place", .glo "is_more", .glo "is_road", .glo "is_right_web", .glo "look_at_web", .glo "lengths_to", .glo "first_way", .glo "found_hurried", .glo "hurried", .glo "found_rows", .glo "arcs", .glo "distances", .glo "shortest", .glo "taken", .glo "found_chains", .glo "brought", .glo "found_short", .glo "short_from", .glo "look_at_moment", .glo "hurried_most", .glo "look_at_number", .glo "time_for", .glo "hurried_time"]
def fal1 : List He.Fa := [.glo "_law_word_of", .glo "_law_asked", .glo "_law_bad_moments", .glo "_law_bad_numbers", .glo "law", .free "ValueError", .free "all", .free "bool", .free "enumerate", .free "int", .free "isinstance", .free "len", .free "max", .free "min", .free "range", .free "repr", .free "sorted", .free "sum", .free "tuple", .free "zip", .glo "NoMoment", .exc "NoMoment", .glo "NoNumber", .exc "NoNumber", .glo "NoWeb", .exc "NoWeb"]
def fal : List He.Fa := fal0 ++ fal1
def loo0 : List PySem.Str := ["HasteError", "NoWeb", "NoMoment", "NoNumber", "NoRoad", "NoCut", "NoShape", "NotTree", "NotRoad", "NoText", "Unlike", "is_whole", "is_more", "is_place", "is_road", "is_right_web", "look_at_web", "look_at_moment", "look_at_number", "arcs", "distances", "shortest", "taken", "found_chains", "brought", "time_for", "lengths_to", "first_way", "found_hurried", "hurried"]
def loo1 : List PySem.Str := ["found_rows", "hurried_most", "hurried_time", "found_short", "short_from", "_law_mixed", "_law_pile", "_law_take", "_law_roads", "_law_web", "_law_bad_webs", "_law_bad_moments", "_law_bad_numbers", "_law_word_of", "_law_asked"]
def loo : List PySem.Str := loo0 ++ loo1
abbrev R : PySem.W.OpenRow := PySem.W.OpenLaw.row PySem.Challenge.rw_hastyways_k22_refused_rule
abbrev hk : PySem.W.Hook := hookE 4 fal fnl
def ob (s : PySem.W.SharedT) : He.AlD × Bool := obE 4 fal fnl s
theorem ob_eq (s : PySem.W.SharedT) : ob s = hk.obs s.abs := obE_eq s
theorem run (w : World) : HandSHeadRun.RunEq R (PySem.W.view R.prog [50]) hk ob 8000 loo w := by
  intro os
  kernel_rfl
theorem facts {h : Heap} (X : K.In h) (G : h.Ns mainGlobals mg) (c : He.SaysD fal fnl K) (cE : excAllB K = true) : Has P w K mg base "law" p_law 9 F_law_k22 := by
  obtain ⟨fd__law_take, U__law_take⟩ := c.def_ 0 (d := d__law_take) rfl
  have D__law_take : Def K mg "_law_take" (top 42) := ⟨_, fd__law_take, He.glo_ok X G (c.fact 0 (f := .glo "_law_take") rfl), U__law_take⟩
  obtain ⟨fd__law_roads, U__law_roads⟩ := c.def_ 1 (d := d__law_roads) rfl
  have D__law_roads : Def K mg "_law_roads" (top 43) := ⟨_, fd__law_roads, He.glo_ok X G (c.fact 1 (f := .glo "_law_roads") rfl), U__law_roads⟩
  obtain ⟨fd__law_web, U__law_web⟩ := c.def_ 2 (d := d__law_web) rfl
  have D__law_web : Def K mg "_law_web" (top 44) := ⟨_, fd__law_web, He.glo_ok X G (c.fact 2 (f := .glo "_law_web") rfl), U__law_web⟩
  obtain ⟨fd__law_mixed, U__law_mixed⟩ := c.def_ 3 (d := d__law_mixed) rfl
  have D__law_mixed : Def K mg "_law_mixed" (top 40) := ⟨_, fd__law_mixed, He.glo_ok X G (c.fact 3 (f := .glo "_law_mixed") rfl), U__law_mixed⟩
  obtain ⟨fd__law_pile, U__law_pile⟩ := c.def_ 4 (d := d__law_pile) rfl
  have D__law_pile : Def K mg "_law_pile" (top 41) := ⟨_, fd__law_pile, He.glo_ok X G (c.fact 4 (f := .glo "_law_pile") rfl), U__law_pile⟩
  obtain ⟨fd__law_bad_webs, U__law_bad_webs⟩ := c.def_ 5 (d := d__law_bad_webs) rfl
  have D__law_bad_webs : Def K mg "_law_bad_webs" (top 45) := ⟨_, fd__law_bad_webs, He.glo_ok X G (c.fact 5 (f := .glo "_law_bad_webs") rfl), U__law_bad_webs⟩
  obtain ⟨fd_is_whole, U_is_whole⟩ := c.def_ 6 (d := d_is_whole) rfl
  have D_is_whole : Def K mg "is_whole" (top 13) := ⟨_, fd_is_whole, He.glo_ok X G (c.fact 6 (f := .glo "is_whole") rfl), U_is_whole⟩
  obtain ⟨fd_is_place, U_is_place⟩ := c.def_ 7 (d := d_is_place) rfl
  have D_is_place : Def K mg "is_place" (top 15) := ⟨_, fd_is_place, He.glo_ok X G (c.fact 7 (f := .glo "is_place") rfl), U_is_place⟩
  obtain ⟨fd_is_more, U_is_more⟩ := c.def_ 8 (d := d_is_more) rfl
  have D_is_more : Def K mg "is_more" (top 14) := ⟨_, fd_is_more, He.glo_ok X G (c.fact 8 (f := .glo "is_more") rfl), U_is_more⟩
  obtain ⟨fd_is_road, U_is_road⟩ := c.def_ 9 (d := d_is_road) rfl
  have D_is_road : Def K mg "is_road" (top 16) := ⟨_, fd_is_road, He.glo_ok X G (c.fact 9 (f := .glo "is_road") rfl), U_is_road⟩
  obtain ⟨fd_is_right_web, U_is_right_web⟩ := c.def_ 10 (d := d_is_right_web) rfl
  have D_is_right_web : Def K mg "is_right_web" (top 17) := ⟨_, fd_is_right_web, He.glo_ok X G (c.fact 10 (f := .glo "is_right_web") rfl), U_is_right_web⟩
  obtain ⟨fd_look_at_web, U_look_at_web⟩ := c.def_ 11 (d := d_look_at_web) rfl
  have D_look_at_web : Def K mg "look_at_web" (top 18) := ⟨_, fd_look_at_web, He.glo_ok X G (c.fact 11 (f := .glo "look_at_web") rfl), U_look_at_web⟩
  obtain ⟨fd_lengths_to, U_lengths_to⟩ := c.def_ 12 (d := d_lengths_to) rfl
  have D_lengths_to : Def K mg "lengths_to" (top 30) := ⟨_, fd_lengths_to, He.glo_ok X G (c.fact 12 (f := .glo "lengths_to") rfl), U_lengths_to⟩
  obtain ⟨fd_first_way, U_first_way⟩ := c.def_ 13 (d := d_first_way) rfl
  have D_first_way : Def K mg "first_way" (top 31) := ⟨_, fd_first_way, He.glo_ok X G (c.fact 13 (f := .glo "first_way") rfl), U_first_way⟩
  obtain ⟨fd_found_hurried, U_found_hurried⟩ := c.def_ 14 (d := d_found_hurried) rfl
  have D_found_hurried : Def K mg "found_hurried" (top 32) := ⟨_, fd_found_hurried, He.glo_ok X G (c.fact 14 (f := .glo "found_hurried") rfl), U_found_hurried⟩
  obtain ⟨fd_hurried, U_hurried⟩ := c.def_ 15 (d := d_hurried) rfl
  have D_hurried : Def K mg "hurried" (top 33) := ⟨_, fd_hurried, He.glo_ok X G (c.fact 15 (f := .glo "hurried") rfl), U_hurried⟩
  obtain ⟨fd_found_rows, U_found_rows⟩ := c.def_ 16 (d := d_found_rows) rfl
  have D_found_rows : Def K mg "found_rows" (top 34) := ⟨_, fd_found_rows, He.glo_ok X G (c.fact 16 (f := .glo "found_rows") rfl), U_found_rows⟩
  obtain ⟨fd_arcs, U_arcs⟩ := c.def_ 17 (d := d_arcs) rfl
  have D_arcs : Def K mg "arcs" (top 22) := ⟨_, fd_arcs, He.glo_ok X G (c.fact 17 (f := .glo "arcs") rfl), U_arcs⟩
  obtain ⟨fd_distances, U_distances⟩ := c.def_ 18 (d := d_distances) rfl
  have D_distances : Def K mg "distances" (top 23) := ⟨_, fd_distances, He.glo_ok X G (c.fact 18 (f := .glo "distances") rfl), U_distances⟩
  obtain ⟨fd_shortest, U_shortest⟩ := c.def_ 19 (d := d_shortest) rfl
  have D_shortest : Def K mg "shortest" (top 24) := ⟨_, fd_shortest, He.glo_ok X G (c.fact 19 (f := .glo "shortest") rfl), U_shortest⟩
  obtain ⟨fd_taken, U_taken⟩ := c.def_ 20 (d := d_taken) rfl
  have D_taken : Def K mg "taken" (top 25) := ⟨_, fd_taken, He.glo_ok X G (c.fact 20 (f := .glo "taken") rfl), U_taken⟩
  obtain ⟨fd_found_chains, U_found_chains⟩ := c.def_ 21 (d := d_found_chains) rfl
  have D_found_chains : Def K mg "found_chains" (top 26) := ⟨_, fd_found_chains, He.glo_ok X G (c.fact 21 (f := .glo "found_chains") rfl), U_found_chains⟩
  obtain ⟨fd_brought, U_brought⟩ := c.def_ 22 (d := d_brought) rfl
  have D_brought : Def K mg "brought" (top 27) := ⟨_, fd_brought, He.glo_ok X G (c.fact 22 (f := .glo "brought") rfl), U_brought⟩
  obtain ⟨fd_found_short, U_found_short⟩ := c.def_ 23 (d := d_found_short) rfl
  have D_found_short : Def K mg "found_short" (top 37) := ⟨_, fd_found_short, He.glo_ok X G (c.fact 23 (f := .glo "found_short") rfl), U_found_short⟩
  obtain ⟨fd_short_from, U_short_from⟩ := c.def_ 24 (d := d_short_from) rfl
  have D_short_from : Def K mg "short_from" (top 38) := ⟨_, fd_short_from, He.glo_ok X G (c.fact 24 (f := .glo "short_from") rfl), U_short_from⟩
  obtain ⟨fd_look_at_moment, U_look_at_moment⟩ := c.def_ 25 (d := d_look_at_moment) rfl
  have D_look_at_moment : Def K mg "look_at_moment" (top 19) := ⟨_, fd_look_at_moment, He.glo_ok X G (c.fact 25 (f := .glo "look_at_moment") rfl), U_look_at_moment⟩
  obtain ⟨fd_hurried_most, U_hurried_most⟩ := c.def_ 26 (d := d_hurried_most) rfl
  have D_hurried_most : Def K mg "hurried_most" (top 35) := ⟨_, fd_hurried_most, He.glo_ok X G (c.fact 26 (f := .glo "hurried_most") rfl), U_hurried_most⟩
  obtain ⟨fd_look_at_number, U_look_at_number⟩ := c.def_ 27 (d := d_look_at_number) rfl
  have D_look_at_number : Def K mg "look_at_number" (top 20) := ⟨_, fd_look_at_number, He.glo_ok X G (c.fact 27 (f := .glo "look_at_number") rfl), U_look_at_number⟩
  obtain ⟨fd_time_for, U_time_for⟩ := c.def_ 28 (d := d_time_for) rfl
  have D_time_for : Def K mg "time_for" (top 28) := ⟨_, fd_time_for, He.glo_ok X G (c.fact 28 (f := .glo "time_for") rfl), U_time_for⟩
  obtain ⟨fd_hurried_time, U_hurried_time⟩ := c.def_ 29 (d := d_hurried_time) rfl
  have D_hurried_time : Def K mg "hurried_time" (top 36) := ⟨_, fd_hurried_time, He.glo_ok X G (c.fact 29 (f := .glo "hurried_time") rfl), U_hurried_time⟩
  obtain ⟨fd__law_word_of, U__law_word_of⟩ := c.def_ 30 (d := d__law_word_of) rfl
  have D__law_word_of : Def K mg "_law_word_of" (top 48) := ⟨_, fd__law_word_of, He.glo_ok X G (c.fact 30 (f := .glo "_law_word_of") rfl), U__law_word_of⟩
  obtain ⟨fd__law_asked, U__law_asked⟩ := c.def_ 31 (d := d__law_asked) rfl
  have D__law_asked : Def K mg "_law_asked" (top 49) := ⟨_, fd__law_asked, He.glo_ok X G (c.fact 31 (f := .glo "_law_asked") rfl), U__law_asked⟩
  obtain ⟨fd__law_bad_moments, U__law_bad_moments⟩ := c.def_ 32 (d := d__law_bad_moments) rfl
  have D__law_bad_moments : Def K mg "_law_bad_moments" (top 46) := ⟨_, fd__law_bad_moments, He.glo_ok X G (c.fact 32 (f := .glo "_law_bad_moments") rfl), U__law_bad_moments⟩
  obtain ⟨fd__law_bad_numbers, U__law_bad_numbers⟩ := c.def_ 33 (d := d__law_bad_numbers) rfl
  have D__law_bad_numbers : Def K mg "_law_bad_numbers" (top 47) := ⟨_, fd__law_bad_numbers, He.glo_ok X G (c.fact 33 (f := .glo "_law_bad_numbers") rfl), U__law_bad_numbers⟩
  obtain ⟨fd_law, U_law⟩ := c.def_ 34 (d := d_law) rfl
  have D_law : Def K mg "law" (top 50) := ⟨_, fd_law, He.glo_ok X G (c.fact 34 (f := .glo "law") rfl), U_law⟩
  have m_ValueError : mg "ValueError" = none := He.free_ok X G (c.fact 35 (f := .free "ValueError") rfl)
  have m_all : mg "all" = none := He.free_ok X G (c.fact 36 (f := .free "all") rfl)
  have m_bool : mg "bool" = none := He.free_ok X G (c.fact 37 (f := .free "bool") rfl)
  have m_enumerate : mg "enumerate" = none := He.free_ok X G (c.fact 38 (f := .free "enumerate") rfl)
  have m_int : mg "int" = none := He.free_ok X G (c.fact 39 (f := .free "int") rfl)
  have m_isinstance : mg "isinstance" = none := He.free_ok X G (c.fact 40 (f := .free "isinstance") rfl)
  have m_len : mg "len" = none := He.free_ok X G (c.fact 41 (f := .free "len") rfl)
  have m_max : mg "max" = none := He.free_ok X G (c.fact 42 (f := .free "max") rfl)
  have m_min : mg "min" = none := He.free_ok X G (c.fact 43 (f := .free "min") rfl)
  have m_range : mg "range" = none := He.free_ok X G (c.fact 44 (f := .free "range") rfl)
  have m_repr : mg "repr" = none := He.free_ok X G (c.fact 45 (f := .free "repr") rfl)
  have m_sorted : mg "sorted" = none := He.free_ok X G (c.fact 46 (f := .free "sorted") rfl)
  have m_sum : mg "sum" = none := He.free_ok X G (c.fact 47 (f := .free "sum") rfl)
  have m_tuple : mg "tuple" = none := He.free_ok X G (c.fact 48 (f := .free "tuple") rfl)
  have m_zip : mg "zip" = none := He.free_ok X G (c.fact 49 (f := .free "zip") rfl)
  have E_NoMoment : ExcF K mg "NoMoment" := ⟨_, He.glo_ok X G (c.fact 50 (f := .glo "NoMoment") rfl), He.exc_ok (c.fact 51 (f := .exc "NoMoment") rfl)⟩
  have E_NoNumber : ExcF K mg "NoNumber" := ⟨_, He.glo_ok X G (c.fact 52 (f := .glo "NoNumber") rfl), He.exc_ok (c.fact 53 (f := .exc "NoNumber") rfl)⟩
  have E_NoWeb : ExcF K mg "NoWeb" := ⟨_, He.glo_ok X G (c.fact 54 (f := .glo "NoWeb") rfl), He.exc_ok (c.fact 55 (f := .exc "NoWeb") rfl)⟩
  have EA : ExcAll K mg := excAll_of X G cE
  have h__law_take : Has P w K mg base "_law_take" p__law_take 1 F_l_take := H__law_take D__law_take m_int
  have h__law_roads : Has P w K mg base "_law_roads" p__law_roads 2 F_l_roads := H__law_roads D__law_roads m_range m_tuple h__law_take
  have h__law_web : Has P w K mg base "_law_web" p__law_web 3 F_l_web := H__law_web D__law_web m_int h__law_take h__law_roads
  have h__law_mixed : Has P w K mg base "_law_mixed" p__law_mixed 1 F_l_mixed := H__law_mixed D__law_mixed m_int
  have h__law_pile : HasF P w K mg base "_law_pile" p__law_pile 2 F_l_pile := H__law_pile D__law_pile m_int m_len m_range h__law_mixed
  have h__law_bad_webs : Has P w K mg base "_law_bad_webs" p__law_bad_webs 1 F_l_bad_webs := H__law_bad_webs D__law_bad_webs
  have h_is_whole : Has P w K mg base "is_whole" p_is_whole 1 F_is_whole := H_is_whole D_is_whole m_bool m_int m_isinstance
  have h_is_place : Has P w K mg base "is_place" p_is_place 2 F_is_place := H_is_place D_is_place h_is_whole
  have h_is_more : Has P w K mg base "is_more" p_is_more 2 F_is_more := H_is_more D_is_more h_is_whole
  have h_is_road : Has P w K mg base "is_road" p_is_road 3 F_is_road := H_is_road D_is_road m_isinstance m_len m_tuple h_is_place h_is_more
  have h_is_right_web : Has P w K mg base "is_right_web" p_is_right_web 4 F_is_right_web := H_is_right_web D_is_right_web m_all m_isinstance m_len m_tuple h_is_whole h_is_place h_is_road
  have h_look_at_web : Has P w K mg base "look_at_web" p_look_at_web 5 F_look_at_web := H_look_at_web D_look_at_web E_NoWeb h_is_right_web
  have h_lengths_to : Has P w K mg base "lengths_to" p_lengths_to 1 F_lengths_to := H_lengths_to D_lengths_to m_enumerate m_range
  have h_first_way : Has P w K mg base "first_way" p_first_way 2 F_first_way := H_first_way D_first_way m_enumerate m_tuple h_lengths_to
  have h_found_hurried : HasF P w K mg base "found_hurried" p_found_hurried 3 F_found_hurried := H_found_hurried D_found_hurried m_min m_sum h_first_way
  have h_hurried : HasF P w K mg base "hurried" p_hurried 6 F_hurried := H_hurried D_hurried h_look_at_web h_found_hurried
  have h_found_rows : Has P w K mg base "found_rows" p_found_rows 4 F_found_rows := H_found_rows D_found_rows h_found_hurried
  have h_arcs : Has P w K mg base "arcs" p_arcs 1 F_arcs := H_arcs D_arcs m_enumerate
  have h_distances : Has P w K mg base "distances" p_distances 2 F_distances := H_distances D_distances m_range h_arcs
  have h_shortest : Has P w K mg base "shortest" p_shortest 3 F_shortest := H_shortest D_shortest h_distances
  have h_taken : Has P w K mg base "taken" p_taken 4 F_taken := H_taken D_taken m_len m_min m_sorted h_shortest
  have h_found_chains : Has P w K mg base "found_chains" p_found_chains 5 F_found_chains := H_found_chains D_found_chains h_taken
  have h_brought : Has P w K mg base "brought" p_brought 1 F_brought := H_brought D_brought m_max m_sum
  have h_found_short : Has P w K mg base "found_short" p_found_short 6 F_found_short := H_found_short D_found_short m_min h_found_rows h_found_chains h_brought
  have h_short_from : Has P w K mg base "short_from" p_short_from 7 F_short_from := H_short_from D_short_from h_look_at_web h_found_short
  have h_look_at_moment : Has P w K mg base "look_at_moment" p_look_at_moment 2 F_look_at_moment := H_look_at_moment D_look_at_moment E_NoMoment h_is_whole
  have h_hurried_most : Has P w K mg base "hurried_most" p_hurried_most 6 F_hurried_most := H_hurried_most D_hurried_most h_look_at_web h_look_at_moment h_brought h_found_rows
  have h_look_at_number : Has P w K mg base "look_at_number" p_look_at_number 3 F_look_at_number := H_look_at_number D_look_at_number E_NoNumber h_is_more
  have h_time_for : Has P w K mg base "time_for" p_time_for 2 F_time_for := H_time_for D_time_for h_brought
  have h_hurried_time : Has P w K mg base "hurried_time" p_hurried_time 6 F_hurried_time := H_hurried_time D_hurried_time h_look_at_web h_look_at_number h_time_for h_found_rows
  have h__law_word_of : Has P w K mg base "_law_word_of" p__law_word_of 1 F_l_word_of := H__law_word_of D__law_word_of m_ValueError m_int m_isinstance m_zip EA
  have h__law_asked : Has P w K mg base "_law_asked" p__law_asked 8 F_l_asked_v2 := H__law_asked D__law_asked m_repr EA h_hurried h_short_from h_hurried_most h_hurried_time h__law_word_of
  have h__law_bad_moments : Has P w K mg base "_law_bad_moments" p__law_bad_moments 1 F_l_bad_moments := H__law_bad_moments D__law_bad_moments
  have h__law_bad_numbers : Has P w K mg base "_law_bad_numbers" p__law_bad_numbers 1 F_l_bad_numbers := H__law_bad_numbers D__law_bad_numbers
  exact H_law D_law m_len m_max m_min m_range h__law_web h__law_pile h__law_bad_webs h__law_asked h__law_bad_moments h__law_bad_numbers
end L2.HW.R_k22
open PySem PySem.W PySem.Calls PyProof.Rows
theorem PySem.Challenge.cw_hastyways_k22_refused_rule_holds : PySem.Challenge.rw_hastyways_k22_refused_rule.Holds := by
  w_on; o_law
  refine HandSHeadRun.head_any (r := OpenLaw.row PySem.Challenge.rw_hastyways_k22_refused_rule) (q := view (OpenLaw.row PySem.Challenge.rw_hastyways_k22_refused_rule).prog [50]) (H := L2.HW.R_k22.hk) (ob := L2.HW.R_k22.ob) (M := 8000) (loose := L2.HW.R_k22.loo) (d := HandSHeadRun.topDef (OpenLaw.row PySem.Challenge.rw_hastyways_k22_refused_rule).prog 50) (kwd := []) L2.HW.R_k22.ob_eq
    (by kernel_rfl) (fun s => by kernel_rfl) L2.HW.R_k22.run (by kernel_rfl) (by kernel_rfl) (by kernel_rfl) (by rfl) (by first | assumption | decide +kernel) (by decide +kernel) ⟨rfl, rfl, rfl, rfl, rfl, by decide +kernel⟩ ?hw ?hc
  case hw => w_witness2
  case hc =>
    refine L2.HW.walk_hw (l := PySem.Challenge.rw_hastyways_k22_refused_rule) (n := 63) (k := 9) (x := "_law_script") (Fl := L2.HW.F_law_k22) rfl (by decide) (by kernel_rfl) ⟨rfl, by decide, by decide⟩ L2.HW.law_k22 ?F
    intro w mg fa h Y G hmg0
    obtain ⟨K, KX, c, cE⟩ := Y
    have hmg : mg ("law" : PySem.Str) = some (.ref fa) := by
      have e : (HandSHeadRun.topDef (OpenLaw.row PySem.Challenge.rw_hastyways_k22_refused_rule).prog 50).name = ("law" : PySem.Str) := by kernel_rfl
      rw [← e]
      exact hmg0
    exact L2.HW.law_end (fun base => L2.HW.R_k22.facts KX G c cE) hmg KX
