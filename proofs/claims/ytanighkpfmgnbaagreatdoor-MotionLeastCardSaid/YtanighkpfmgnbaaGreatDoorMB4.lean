import Derived.Test.YtanighkpfmgnbaaGreatDoorProg
import Derived.Test.YtanighkpfmgnbaaGreatDoorMA2
import Derived.Test.YtanighkpfmgnbaaGreatDoorMB1
import Derived.Test.YtanighkpfmgnbaaGreatDoorMA3
import Derived.Test.YtanighkpfmgnbaaGreatDoorMB2
import Derived.Test.YtanighkpfmgnbaaGreatDoorMB3
set_option linter.unusedVariables false
set_option linter.unusedSimpArgs false
set_option linter.unnecessarySimpa false
set_option maxRecDepth 100000
namespace Go.Proofs.YtanighkpfmgnbaaGreatDoor
open Go Go.Fen
def D9y:List UInt8:=[48,49,50,51,52,53,54,55,56,57,97,98,99,100,101,102]
def A1m (m:Int):Nat→Nat→Bool
 | 0,_=>false
 | fu1+1,k=>(bif (decide ((k:Int)<8)) then (bif (decide (m=(([1,2,4,8,16,32,64,128]:List Int).getD k 0))) then true else A1m m fu1 (k+1)) else false)
def A7d (m:Int):Bool :=
 A1m m ((8 - 0)+1) 0
def W8 (c:Col):Int :=
 (bif (decide (c.kind=0)) then (bif (decide (c.n=0)) then 0 else 130) else (bif (decide (c.kind=1)) then (bif ((decide ((0:Int)≤c.n))&&(decide (c.n≤255))) then 0 else 130) else (bif (decide (c.kind=2)) then (bif ((decide ((0:Int)≤c.n))&&(decide (c.n≤16777215))) then 0 else 130) else 130)))
def U2 (a:Act) (is:Bool):Int :=
 (bif (((!decide (a.kind=39))||(!(decide (a.text=([]:List UInt8)))))||(!is)) then 141 else 0)
def A2g (a:Act) (t72:Bool):Int :=
 (bif t72 then U2 a ((decide (a.m=0))&&(decide ((W8 a.color)=0))) else U2 a false)
def O4 (a:Act):Int :=
 (bif (decide (a.n=0)) then U2 a ((decide (a.m=0))&&(decide (a.color=Col.zero))) else (bif (decide (a.n=1)) then U2 a ((A7d a.m)&&(decide (a.color=Col.zero))) else (bif (decide (a.n=2)) then U2 a (((decide (a.m=3))||(((A7d a.m)&&(!decide (a.m=1)))&&(!decide (a.m=2))))&&(decide (a.color=Col.zero))) else (bif (decide (a.n=3)) then U2 a (((decide ((0:Int)≤a.m))&&(decide (a.m≤5)))&&(decide (a.color=Col.zero))) else (bif (decide (a.n=4)) then A2g a (decide (a.n=4)) else (bif (decide (a.n=5)) then A2g a (decide (a.n=5)) else A2g a (decide (a.n=6))))))))
def C9q:Int×Int×Int :=
 (0,0,0)
abbrev zlo:List Int:=([0,0,128,2048,65536]:List Int)
abbrev zhi:List Int:=([0,127,2047,65535,1114111]:List Int)
def D0i:Bool×Bool :=
 (B4 C9q fun (y0:Int×Int×Int)=>(bif (decide (y0.2.2=0)) then (false,false) else (((decide ((if (zlo.getD ((y0.2.2).toNat) 0) > y0.1 then (zlo.getD ((y0.2.2).toNat) 0) else y0.1)≤(if (zhi.getD ((y0.2.2).toNat) 0)<y0.2.1 then (zhi.getD ((y0.2.2).toNat) 0) else y0.2.1)))&&(!((decide ((55296:Int)≤(if (zlo.getD ((y0.2.2).toNat) 0) > y0.1 then (zlo.getD ((y0.2.2).toNat) 0) else y0.1)))&&(decide ((if (zhi.getD ((y0.2.2).toNat) 0)<y0.2.1 then (zhi.getD ((y0.2.2).toNat) 0) else y0.2.1)≤57343))))),(((decide ((if (zlo.getD ((y0.2.2).toNat) 0) > y0.1 then (zlo.getD ((y0.2.2).toNat) 0) else y0.1)≤(if (zhi.getD ((y0.2.2).toNat) 0)<y0.2.1 then (zhi.getD ((y0.2.2).toNat) 0) else y0.2.1)))&&(!((decide ((55296:Int)≤(if (zlo.getD ((y0.2.2).toNat) 0) > y0.1 then (zlo.getD ((y0.2.2).toNat) 0) else y0.1)))&&(decide ((if (zhi.getD ((y0.2.2).toNat) 0)<y0.2.1 then (zhi.getD ((y0.2.2).toNat) 0) else y0.2.1)≤57343)))))&&(decide ((0:Int)=y0.2.2))))))
def C6y:Bool :=
 (B4 D0i fun (y5:Bool×Bool)=>true)
def J2 (b:UInt8):Int×Int :=
 (bif (decide ((b.toNat:Int)<128)) then (1,(b.toNat:Int)) else (bif ((decide ((192:Int)≤(b.toNat:Int)))&&(decide ((b.toNat:Int)<224))) then (2,((b.toNat:Int) - 192)) else (bif ((decide ((224:Int)≤(b.toNat:Int)))&&(decide ((b.toNat:Int)<240))) then (3,((b.toNat:Int) - 224)) else (bif ((decide ((240:Int)≤(b.toNat:Int)))&&(decide ((b.toNat:Int)<248))) then (4,((b.toNat:Int) - 240)) else (0,0)))))
def H0 (p:List UInt8) (y4:Int×Int):Nat→Int→Int→Nat→(Int×Int×Int)
 | 0,_,_,_=>(0,0,0)
 | fu1+1,low,high,i=>(bif (decide ((i:Int)<y4.1)) then (bif (decide ((i:Int)<(p.length:Int))) then (bif ((decide (((p.getD i 0).toNat:Int)<128))||(decide ((191:Int)<((p.getD i 0).toNat:Int)))) then (0,0,0) else H0 p y4 fu1 (IntKind.i64.wrap ((IntKind.i64.wrap (low * (64:Int)))+(((p.getD i 0).toNat:Int) - 128))) (IntKind.i64.wrap ((IntKind.i64.wrap ((IntKind.i64.wrap ((IntKind.i64.wrap (high * (64:Int)))+(63:Int))) - (63:Int)))+(((p.getD i 0).toNat:Int) - 128))) (i+1)) else H0 p y4 fu1 (IntKind.i64.wrap (low * (64:Int))) (IntKind.i64.wrap ((IntKind.i64.wrap (high * (64:Int)))+(63:Int))) (i+1)) else (bif (decide (y4.1<(p.length:Int))) then (0,0,0) else (low,high,y4.1)))
def P6 (p:List UInt8):Int×Int×Int :=
 (bif (decide ((p.length:Int)=0)) then (0,0,0) else (B4 (J2 (p.getD 0 0)) fun (y4:Int×Int)=>H0 p y4 ((y4.1 - (1:Int)).toNat+1) y4.2 y4.2 1))
def Y6 (p:List UInt8):Bool×Bool :=
 (B4 (P6 p) fun (y1:Int×Int×Int)=>(bif (decide (y1.2.2=0)) then (false,false) else (((decide ((if (zlo.getD ((y1.2.2).toNat) 0) > y1.1 then (zlo.getD ((y1.2.2).toNat) 0) else y1.1)≤(if (zhi.getD ((y1.2.2).toNat) 0)<y1.2.1 then (zhi.getD ((y1.2.2).toNat) 0) else y1.2.1)))&&(!((decide ((55296:Int)≤(if (zlo.getD ((y1.2.2).toNat) 0) > y1.1 then (zlo.getD ((y1.2.2).toNat) 0) else y1.1)))&&(decide ((if (zhi.getD ((y1.2.2).toNat) 0)<y1.2.1 then (zhi.getD ((y1.2.2).toNat) 0) else y1.2.1)≤57343))))),(((decide ((if (zlo.getD ((y1.2.2).toNat) 0) > y1.1 then (zlo.getD ((y1.2.2).toNat) 0) else y1.1)≤(if (zhi.getD ((y1.2.2).toNat) 0)<y1.2.1 then (zhi.getD ((y1.2.2).toNat) 0) else y1.2.1)))&&(!((decide ((55296:Int)≤(if (zlo.getD ((y1.2.2).toNat) 0) > y1.1 then (zlo.getD ((y1.2.2).toNat) 0) else y1.1)))&&(decide ((if (zhi.getD ((y1.2.2).toNat) 0)<y1.2.1 then (zhi.getD ((y1.2.2).toNat) 0) else y1.2.1)≤57343)))))&&(decide ((p.length:Int)=y1.2.2))))))
def A6b (b:UInt8):List UInt8×List Int :=
 (B4 (Y6 (([]:List UInt8)++([b]:List UInt8))) fun (y6:Bool×Bool)=>(bif y6.2 then (B4 (P6 (([]:List UInt8)++([b]:List UInt8))) fun (y1:Int×Int×Int)=>(([]:List UInt8),([y1.1]:List Int))) else (bif y6.1 then ((([]:List UInt8)++([b]:List UInt8)),([]:List Int)) else (([]:List UInt8),([65533]:List Int)))))
def B5w (b:UInt8):List UInt8×List Int :=
 (bif (!C6y) then A6b b else A6b b)
def A4q (p:List UInt8):Bool :=
 (B4 (Y6 p) fun (y6:Bool×Bool)=>((decide ((p.length:Int)=0))||(y6.1&&(!y6.2))))
def A5f (b:UInt8) (pending1:List UInt8):List UInt8×List Int :=
 (B4 (Y6 ((([]:List UInt8)++pending1)++([b]:List UInt8))) fun (y6:Bool×Bool)=>(bif y6.2 then (B4 (P6 ((([]:List UInt8)++pending1)++([b]:List UInt8))) fun (y1:Int×Int×Int)=>(([]:List UInt8),([y1.1]:List Int))) else (bif y6.1 then (((([]:List UInt8)++pending1)++([b]:List UInt8)),([]:List Int)) else (bif (decide ((pending1.length:Int)=0)) then (([]:List UInt8),([65533]:List Int)) else (B4 (B5w b) fun (y13:List UInt8×List Int)=>(y13.1,(([65533]:List Int)++y13.2)))))))
def B3v (pending:List UInt8) (b:UInt8):List UInt8×List Int :=
 (bif (!(A4q pending)) then A5f b ([]:List UInt8) else A5f b pending)
def B9w (pending:List UInt8):List Int :=
 (bif ((decide ((0:Int)<(pending.length:Int)))&&(A4q pending)) then ([65533]:List Int) else ([]:List Int))
def A2t:List UInt8→List Int→List UInt8→Nat→List Int
 | [],out,pending,i=>(B4 (B9w pending) fun (y43:List Int)=>(out++y43))
 | hd_l0::tl_l0,out,pending,i=>(B4 (B3v pending hd_l0) fun (y23:List UInt8×List Int)=>A2t tl_l0 (out++y23.2) y23.1 (i+1))
def A9y (s:List UInt8):List Int :=
 A2t s ([]:List Int) ([]:List UInt8) 0
def A1g (cp:Int):Bool :=
 (((decide ((0:Int)≤cp))&&(decide (cp≤1114111)))&&((decide (cp<55296))||(decide ((57343:Int)<cp))))
def S8 (cp:Int):Int :=
 (bif (decide (cp<128)) then 1 else (bif (decide (cp<2048)) then 2 else (bif (decide (cp<65536)) then 3 else 4)))
def W1 (cp1:Int):Nat→Int→List UInt8→Int→List UInt8
 | 0,_,_,_=>[]
 | fu1+1,cp2,b,i=>(bif (decide ((0:Int)<i)) then W1 cp1 fu1 (IntKind.i64.wrap (Int.tdiv cp2 64)) (b.set ((i).toNat) (by8 (IntKind.u8.wrap (128+(Int.tmod cp2 64))))) (i - 1) else (b.set 0 (by8 (IntKind.u8.wrap ((([0,0,192,224,240]:List Int).getD ((S8 cp1).toNat) 0)+cp2)))))
def A7s (cp1:Int):List UInt8 :=
 (bif (decide ((S8 cp1)=1)) then ([(by8 (IntKind.u8.wrap cp1))]:List UInt8) else W1 cp1 ((((S8 cp1) - 1) - (0:Int)).toNat+1) cp1 (List.replicate ((S8 cp1).toNat) (0:UInt8)) ((S8 cp1) - 1))
def B4d (cp:Int):List UInt8 :=
 (bif (!(A1g cp)) then A7s 65533 else A7s cp)
def A6g:List Int→List UInt8→Nat→List UInt8
 | [],s,i=>s
 | hd_l0::tl_l0,s,i=>(B4 (B4d hd_l0) fun (y19:List UInt8)=>A6g tl_l0 (s++y19) (i+1))
def B1j (codes:List Int):List UInt8 :=
 A6g codes ([]:List UInt8) 0
def A4z (s:List UInt8):Nat→List Int→Nat→Bool
 | 0,_,_=>false
 | fu1+1,l,i=>(bif (decide ((i:Int)<(l.length:Int))) then (bif ((decide ((l.getD i 0)<32))||((decide ((127:Int)≤(l.getD i 0)))&&(decide ((l.getD i 0)≤159)))) then false else A4z s fu1 l (i+1)) else (B4 (B1j l) fun (y31:List UInt8)=>(decide (y31=s))))
def A6x (s:List UInt8):Bool :=
 (bif (decide ((510:Int)<(s.length:Int))) then false else (B4 (A9y s) fun (y26:List Int)=>A4z s ((y26.length - 0)+1) y26 0))
def C7d (n:Int):Int :=
 (bif (decide (n<16)) then (([0,13434880,52480,13487360,238,13435085,52685,15066597,8355711,16711680,65280,16776960,6053119,16711935,65535,16777215]:List Int).getD ((n).toNat) 0) else (bif (decide ((232:Int)≤n)) then ((8+(10 * (n - 232))) * 65793) else ((((([0,95,135,175,215,255]:List Int).getD (((n - 16) / 36).toNat) 0) * 65536)+((([0,95,135,175,215,255]:List Int).getD ((((n - 16) / 6) % 6).toNat) 0) * 256))+(([0,95,135,175,215,255]:List Int).getD (((n - 16) % 6).toNat) 0))))
def B8z (c:Col):Int×Bool :=
 (bif ((!decide ((W8 c)=0))||(decide (c.kind=0))) then (0,false) else (bif (decide (c.kind=1)) then ((C7d c.n),true) else (c.n,true)))
theorem dv6:∀ k:Nat,k<6→1≤([1048576,65536,4096,256,16,1]:List Int).getD k 0∧([1048576,65536,4096,256,16,1]:List Int).getD k 0≤1048576
 | 0,_ | 1,_ | 2,_ | 3,_ | 4,_ | 5,_=>by decide
 | _+6,h=>by omega
def A0s (y8:Int×Bool):Nat→List UInt8→Nat→(List UInt8×Int)
 | 0,_,_=>([],0)
 | fu1+1,s,k=>(bif (decide ((k:Int)<6)) then A0s y8 fu1 (s++((D9y.drop (((y8.1 / (([1048576,65536,4096,256,16,1]:List Int).getD k 0)) % 16).toNat)).take ((((y8.1 / (([1048576,65536,4096,256,16,1]:List Int).getD k 0)) % 16).toNat+1) - (((y8.1 / (([1048576,65536,4096,256,16,1]:List Int).getD k 0)) % 16).toNat)))) (k+1) else ((((((([114,103,98,58]:List UInt8)++(s.take 2))++([47]:List UInt8))++((s.drop 2).take (4 - 2)))++([47]:List UInt8))++(s.drop 4)),0))
def A5p (c:Col):List UInt8×Int :=
 (bif (!decide ((W8 c)=0)) then (([]:List UInt8),130) else (B4 (B8z c) fun (y8:Int×Bool)=>(bif (!y8.2) then (([]:List UInt8),2) else A0s y8 ((6 - 0)+1) ([]:List UInt8) 0)))
def M4:Nat→Int→List UInt8
 | 0,_=>[]
 | fu+1,n=>(bif (decide (n<10)) then ([(by8 (IntKind.u8.wrap (IntKind.i64.wrap ((48:Int)+n))))]:List UInt8) else ((M4 fu (n / 10))++(M4 fu (n % 10))))
def Y7 (s:List UInt8) (out:List UInt8) (bit:Nat) (ag_ref07_Bare_l3:List UInt8→Nat→List UInt8):Nat→Int→Nat→List UInt8
 | 0,_,_=>[]
 | fu3+1,n,k=>(bif (decide ((k:Int)<((bit:Int)+6))) then (bif (decide (((k:Int) / 8)<(s.length:Int))) then Y7 s out bit ag_ref07_Bare_l3 fu3 ((2 * n)+((((s.getD (((k:Int) / 8).toNat) 0).toNat:Int) / (([128,64,32,16,8,4,2,1]:List Int).getD (((k:Int) % 8).toNat) 0)) % 2)) (k+1) else Y7 s out bit ag_ref07_Bare_l3 fu3 ((2 * n)+0) (k+1)) else ag_ref07_Bare_l3 (out++([(B9u.getD ((n).toNat) 0)]:List UInt8)) (bit+6))
def Z1 (s:List UInt8):Nat→List UInt8→Nat→List UInt8
 | 0,_,_=>[]
 | fu1+1,out,bit=>(bif (decide ((bit:Int)<(8 * (s.length:Int)))) then Y7 s out bit (Z1 s fu1) (((bit+6) - bit)+1) 0 bit else out)
def B5q (s:List UInt8):List UInt8 :=
 Z1 s (((8 * (s.length:Int)) - (0:Int)).toNat+1) ([]:List UInt8) 0
def X3:Nat→List UInt8→(List UInt8×Int)
 | 0,_=>([],0)
 | fu1+1,t=>(bif (!decide (((t.length:Int) % 4)=0)) then X3 fu1 (t++([61]:List UInt8)) else (t,0))
def B1u (s:List UInt8):List UInt8×Int :=
 (bif (decide ((4096:Int)<(s.length:Int))) then (([]:List UInt8),3) else (B4 (B5q s) fun (y22:List UInt8)=>X3 (((4 - y22.length % 4) % 4)+1) y22))
def N5 (a:Act):List UInt8×Int :=
 (bif ((decide (a={Act.zero with kind:=44,text:=a.text}))&&(A6x a.text)) then ((([50,59]:List UInt8)++a.text),0) else (bif ((((decide (a={Act.zero with kind:=45,n:=a.n,color:=a.color}))&&(decide ((0:Int)≤a.n)))&&(decide (a.n≤255)))&&(decide (a.color.kind=2))) then (B4 (A5p a.color) fun (y21:List UInt8×Int)=>(bif (decide (y21.2=0)) then ((((([52,59]:List UInt8)++(M4 (a.n.toNat+1) a.n))++([59]:List UInt8))++y21.1),0) else (([]:List UInt8),2))) else (bif ((decide (a={Act.zero with kind:=46,text:=a.text}))&&(decide ((a.text.length:Int)≤378))) then (B4 (B1u a.text) fun (y41:List UInt8×Int)=>((([53,50,59,99,59]:List UInt8)++y41.1),0)) else (([]:List UInt8),2))))
def B2f:List Ar2 :=
 ([(⟨768,879⟩:Ar2),(⟨1155,1161⟩:Ar2),(⟨1425,1469⟩:Ar2),(⟨1552,1562⟩:Ar2),(⟨1611,1631⟩:Ar2),(⟨6832,6911⟩:Ar2),(⟨7616,7679⟩:Ar2),(⟨8203,8207⟩:Ar2),(⟨8400,8447⟩:Ar2),(⟨65024,65039⟩:Ar2),(⟨65056,65071⟩:Ar2)]:List Ar2)
def A9p (cp:Int):List Ar2→Nat→Bool
 | [],i=>false
 | hd_l0::tl_l0,i=>(bif ((decide (hd_l0.a≤cp))&&(decide (cp≤hd_l0.b))) then true else A9p cp tl_l0 (i+1))
def A3s (l:List Ar2) (cp:Int):Bool :=
 A9p cp l 0
def B1b:List Ar2 :=
 ([(⟨4352,4447⟩:Ar2),(⟨11904,12350⟩:Ar2),(⟨12353,13311⟩:Ar2),(⟨13312,19903⟩:Ar2),(⟨19968,40959⟩:Ar2),(⟨40960,42191⟩:Ar2),(⟨44032,55203⟩:Ar2),(⟨63744,64255⟩:Ar2),(⟨65072,65135⟩:Ar2),(⟨65280,65376⟩:Ar2),(⟨65504,65510⟩:Ar2),(⟨127744,128591⟩:Ar2),(⟨128640,128767⟩:Ar2),(⟨129280,129535⟩:Ar2),(⟨131072,262141⟩:Ar2)]:List Ar2)
def B6q (cp:Int):Int :=
 (bif (((!(A1g cp))||(decide (cp<32)))||((decide ((127:Int)≤cp))&&(decide (cp<160)))) then (-1) else (B4 B2f fun (y35:List Ar2)=>(bif (A3s y35 cp) then 0 else (B4 B1b fun (y37:List Ar2)=>(bif (A3s y37 cp) then 2 else 1)))))
def Q1 (n:Int) (from_:Int) (to_:Int):Bool :=
 ((decide (from_≤n))&&(decide (n≤to_)))
def S1 (n:Int):Bool :=
 (Q1 n 1 9999)
def A1b (a:Act) (t155:Bool):Bool :=
 (bif t155 then ((Q1 a.n 0 9999)&&(Q1 a.m 0 1)) else (bif (decide (a.kind=38)) then ((Q1 a.n 0 9999)&&(Q1 a.m 0 9999)) else (bif (decide (a.kind=40)) then ((Q1 a.n 0 6)&&(decide (a.m=0))) else (bif (decide (a.kind=41)) then ((Q1 a.n 5 6)&&(decide (a.m=0))) else false))))
def L7 (a:Act) (t101:Bool):Bool :=
 (bif t101 then ((S1 a.n)&&(decide (a.m=0))) else (bif (decide (a.kind=26)) then ((Q1 a.n 0 3)&&(decide (a.m=0))) else (bif (decide (a.kind=27)) then ((Q1 a.n 0 2)&&(decide (a.m=0))) else (bif (decide (a.kind=35)) then (((decide (a.n=0))||(decide (a.n=3)))&&(decide (a.m=0))) else (bif (decide (a.kind=36)) then A1b a (decide (a.kind=36)) else (bif (decide (a.kind=37)) then A1b a (decide (a.kind=37)) else A1b a (decide (a.kind=43))))))))
def A3a (a:Act) (t90:Bool):Bool :=
 (bif t90 then ((Q1 a.n 0 1)&&(S1 a.m)) else (bif (decide (a.kind=22)) then L7 a (decide (a.kind=22)) else (bif (decide (a.kind=23)) then L7 a (decide (a.kind=23)) else (bif (decide (a.kind=24)) then L7 a (decide (a.kind=24)) else (bif (decide (a.kind=25)) then L7 a (decide (a.kind=25)) else (bif (decide (a.kind=28)) then L7 a (decide (a.kind=28)) else (bif (decide (a.kind=29)) then L7 a (decide (a.kind=29)) else (bif (decide (a.kind=30)) then L7 a (decide (a.kind=30)) else (bif (decide (a.kind=31)) then L7 a (decide (a.kind=31)) else (bif (decide (a.kind=32)) then L7 a (decide (a.kind=32)) else L7 a (decide (a.kind=34))))))))))))
def A0y (a:Act) (t38:Bool):Bool :=
 (bif t38 then ((Q1 a.n 0 1)&&(decide (a.m=0))) else (bif (decide (a.kind=17)) then ((Q1 a.n 0 3)&&(Q1 a.m 0 1)) else (bif (decide (a.kind=18)) then ((Q1 a.n 2 3)&&(decide (a.m=0))) else (bif (decide (a.kind=19)) then ((S1 a.n)&&(S1 a.m)) else (bif (decide (a.kind=20)) then ((Q1 a.n 0 3)&&(S1 a.m)) else (bif (decide (a.kind=21)) then A3a a (decide (a.kind=21)) else A3a a (decide (a.kind=33))))))))
def I6 (a:Act) (t16:Bool):Bool :=
 (bif t16 then ((decide (a.n=0))&&(decide (a.m=0))) else (bif (decide (a.kind=7)) then A0y a (decide (a.kind=7)) else (bif (decide (a.kind=14)) then A0y a (decide (a.kind=14)) else A0y a (decide (a.kind=42)))))
def Y9 (a:Act):Bool :=
 (bif (decide (a.kind=1)) then ((decide ((0:Int)≤(B6q a.n)))&&(decide (a.m=0))) else (bif (decide (a.kind=2)) then I6 a (decide (a.kind=2)) else (bif (decide (a.kind=3)) then I6 a (decide (a.kind=3)) else (bif (decide (a.kind=4)) then I6 a (decide (a.kind=4)) else (bif (decide (a.kind=5)) then I6 a (decide (a.kind=5)) else (bif (decide (a.kind=6)) then I6 a (decide (a.kind=6)) else (bif (decide (a.kind=8)) then I6 a (decide (a.kind=8)) else (bif (decide (a.kind=9)) then I6 a (decide (a.kind=9)) else (bif (decide (a.kind=10)) then I6 a (decide (a.kind=10)) else (bif (decide (a.kind=11)) then I6 a (decide (a.kind=11)) else (bif (decide (a.kind=12)) then I6 a (decide (a.kind=12)) else (bif (decide (a.kind=13)) then I6 a (decide (a.kind=13)) else (bif (decide (a.kind=15)) then I6 a (decide (a.kind=15)) else I6 a (decide (a.kind=16)))))))))))))))
def A2n (a:Act) (t12:Bool):Bool :=
 (bif t12 then (B4 (N5 a) fun (y9:List UInt8×Int)=>(decide (y9.2=0))) else (((Y9 a)&&(decide (a.color=Col.zero)))&&(decide (a.text=([]:List UInt8)))))
def S3 (a:Act):Bool :=
 (bif (decide (a.kind=39)) then (decide ((O4 a)=0)) else (bif (decide (a.kind=44)) then A2n a (decide (a.kind=44)) else (bif (decide (a.kind=45)) then A2n a (decide (a.kind=45)) else A2n a (decide (a.kind=46)))))
def C6x:List Ar3 :=
 ([(⟨1,1,22⟩:Ar3),(⟨2,2,22⟩:Ar3),(⟨3,4,23⟩:Ar3),(⟨5,8,25⟩:Ar3),(⟨7,16,27⟩:Ar3),(⟨8,32,28⟩:Ar3),(⟨9,64,29⟩:Ar3),(⟨53,128,55⟩:Ar3)]:List Ar3)
def B3k (a:Act):List Ar3→Nat→List Int
 | [],i=>(bif (decide (a.n=0)) then ([0]:List Int) else (bif ((decide (a.n=3))&&(decide (a.m=1))) then ([4]:List Int) else (bif ((decide (a.n=3))&&(decide (a.m=0))) then ([24]:List Int) else (bif (decide (a.n=3)) then ([4,a.m]:List Int) else (bif (decide (a.color.kind=0)) then ([(IntKind.i64.wrap ((IntKind.i64.wrap ((38:Int)+(IntKind.i64.wrap ((10:Int) * (IntKind.i64.wrap (a.n - (4:Int)))))))+(1:Int)))]:List Int) else (bif (decide (a.color.kind=2)) then ([(IntKind.i64.wrap ((38:Int)+(IntKind.i64.wrap ((10:Int) * (IntKind.i64.wrap (a.n - (4:Int))))))),2,(-1),(IntKind.i64.wrap (Int.tdiv a.color.n 65536)),(Int.tmod (IntKind.i64.wrap (Int.tdiv a.color.n 256)) 256),(Int.tmod a.color.n 256)]:List Int) else (bif ((!decide (a.n=6))&&(decide (a.color.n<8))) then ([(IntKind.i64.wrap ((IntKind.i64.wrap ((IntKind.i64.wrap ((38:Int)+(IntKind.i64.wrap ((10:Int) * (IntKind.i64.wrap (a.n - (4:Int))))))) - (8:Int)))+a.color.n))]:List Int) else (bif ((!decide (a.n=6))&&(decide (a.color.n<16))) then ([(IntKind.i64.wrap ((IntKind.i64.wrap ((IntKind.i64.wrap ((38:Int)+(IntKind.i64.wrap ((10:Int) * (IntKind.i64.wrap (a.n - (4:Int)))))))+(44:Int)))+a.color.n))]:List Int) else ([(IntKind.i64.wrap ((38:Int)+(IntKind.i64.wrap ((10:Int) * (IntKind.i64.wrap (a.n - (4:Int))))))),5,a.color.n]:List Int)))))))))
 | hd_l0::tl_l0,i=>(bif ((decide (a.n=1))&&(decide (a.m=hd_l0.b))) then ([hd_l0.a]:List Int) else (bif ((decide (a.n=2))&&((decide (a.m=hd_l0.b))||((decide (a.m=3))&&(decide ((i:Int)=0))))) then ([hd_l0.c]:List Int) else B3k a tl_l0 (i+1)))
def A2w (a:Act):List Int :=
 (B4 C6x fun (y44:List Ar3)=>B3k a y44 0)
def A0g (l:List Act):List Act→List (List Int)→Nat→(List (List Int)×Int)
 | [],out,i=>(bif (decide ((16:Int)<(l.length:Int))) then (([]:List (List Int)),3) else (out,0))
 | hd_l0::tl_l0,out,i=>(bif (!decide ((O4 hd_l0)=0)) then (([]:List (List Int)),141) else (B4 (A2w hd_l0) fun (y20:List Int)=>A0g l tl_l0 (out++([y20]:List (List Int))) (i+1)))
def B7t (l:List Act):List (List Int)×Int :=
 A0g l l ([]:List (List Int)) 0
def A4r (i:Nat) (ag_ref05_Check_l2:Nat→Int):List Int→Nat→Int
 | [],k=>ag_ref05_Check_l2 (i+1)
 | hd_l3::tl_l3,k=>(bif ((decide (hd_l3<(-1)))||(decide ((9999:Int)<hd_l3))) then 150 else A4r i ag_ref05_Check_l2 tl_l3 (k+1))
def A2q (l:List (List Int)):List (List Int)→Nat→Int
 | [],i=>(bif (((decide ((l.length:Int)=1))&&(decide (((l.getD 0 []).length:Int)=1)))&&(decide (((l.getD 0 []).getD 0 0)=(-1)))) then 150 else 0)
 | hd_l2::tl_l2,i=>(bif ((decide ((hd_l2.length:Int)<1))||(decide ((6:Int)<(hd_l2.length:Int)))) then 150 else A4r i (A2q l tl_l2) hd_l2 0)
def B3g (l:List (List Int)):Int :=
 (bif (decide ((16:Int)<(l.length:Int))) then 150 else A2q l l 0)
def A3y (l:List (List Int)) (i:Nat) (k:Nat) (ag_ref05_Print_l3:List UInt8→Nat→(List UInt8×Int)) (s3:List UInt8):List UInt8×Int :=
 (bif (decide ((0:Int)≤((l.getD i []).getD k 0))) then ag_ref05_Print_l3 (s3++(M4 (((l.getD i []).getD k 0).toNat+1) ((l.getD i []).getD k 0))) (k+1) else ag_ref05_Print_l3 s3 (k+1))
def Z8 (l:List (List Int)) (i:Nat) (ag_ref05_Print_l2:List UInt8→Nat→(List UInt8×Int)):Nat→List UInt8→Nat→(List UInt8×Int)
 | 0,_,_=>([],0)
 | fu1+1,s2,k=>(bif (decide ((k:Int)<((l.getD i []).length:Int))) then (bif (decide ((0:Int)<(k:Int))) then A3y l i k (Z8 l i ag_ref05_Print_l2 fu1) (s2++([58]:List UInt8)) else A3y l i k (Z8 l i ag_ref05_Print_l2 fu1) s2) else ag_ref05_Print_l2 s2 (i+1))
def A4x (l:List (List Int)) (i:Nat) (ag_ref05_Print_l2:List UInt8→Nat→(List UInt8×Int)) (s1:List UInt8):List UInt8×Int :=
 Z8 l i ag_ref05_Print_l2 (((l.getD i []).length - 0)+1) s1 0
def W6 (l:List (List Int)):List (List Int)→List UInt8→Nat→(List UInt8×Int)
 | [],s,i=>(s,0)
 | hd_l2::tl_l2,s,i=>(bif (decide ((0:Int)<(i:Int))) then A4x l i (W6 l tl_l2) (s++([59]:List UInt8)) else A4x l i (W6 l tl_l2) s)
def A9l (l:List (List Int)):List UInt8×Int :=
 (bif (!decide ((B3g l)=0)) then (([]:List UInt8),150) else W6 l l ([]:List UInt8) 0)
def A5t (l:List Act):List UInt8 :=
 (B4 (B7t l) fun (y46:List (List Int)×Int)=>(B4 (A9l y46.1) fun (y33:List UInt8×Int)=>((([27,91]:List UInt8)++y33.1)++([109]:List UInt8))))
def A0c (s:List UInt8) (n:Int):List UInt8 :=
 ((s.drop ((n).toNat)).take (((n).toNat+1) - ((n).toNat)))
def B3u (a:Act):List UInt8 :=
 (bif (decide (a.kind=2)) then ([7]:List UInt8) else (bif (decide (a.kind=3)) then ([8]:List UInt8) else (bif (decide (a.kind=4)) then ([9]:List UInt8) else (bif (decide (a.kind=5)) then ([10]:List UInt8) else (bif (decide (a.kind=6)) then ([13]:List UInt8) else (bif (decide (a.kind=7)) then (B4 (A0c ([15,14]:List UInt8) a.n) fun (y3:List UInt8)=>y3) else (bif (decide (a.kind=8)) then ([27,68]:List UInt8) else (bif (decide (a.kind=9)) then ([27,69]:List UInt8) else (bif (decide (a.kind=10)) then ([27,72]:List UInt8) else (bif (decide (a.kind=11)) then ([27,77]:List UInt8) else (bif (decide (a.kind=12)) then ([27,55]:List UInt8) else (bif (decide (a.kind=13)) then ([27,56]:List UInt8) else (bif (decide (a.kind=15)) then ([27,99]:List UInt8) else (bif (decide (a.kind=14)) then (B4 (A0c ([62,61]:List UInt8) a.n) fun (y12:List UInt8)=>(([27]:List UInt8)++y12)) else (bif (decide (a.kind=16)) then ([27,35,56]:List UInt8) else (bif (decide (a.kind=17)) then (B4 (A0c ([40,41,42,43]:List UInt8) a.n) fun (y14:List UInt8)=>(B4 (A0c ([66,48]:List UInt8) a.m) fun (y17:List UInt8)=>((([27]:List UInt8)++y14)++y17))) else (bif (decide (a.kind=18)) then (B4 (A0c ([78,79]:List UInt8) (a.n - 2)) fun (y38:List UInt8)=>(([27]:List UInt8)++y38)) else ([]:List UInt8))))))))))))))))))
def O3 (n:Int) (none_:Int):List UInt8 :=
 (bif (decide (n=none_)) then ([]:List UInt8) else (M4 (n.toNat+1) n))
def A5s (n:Int) (m:Int) (none_:Int):List UInt8 :=
 (bif (decide (m=none_)) then (B4 (O3 n none_) fun (y2:List UInt8)=>y2) else (B4 (O3 n none_) fun (y18:List UInt8)=>(B4 (O3 m none_) fun (y15:List UInt8)=>((y18++([59]:List UInt8))++y15))))
def B0r (a:Act):Nat→Nat→List UInt8
 | 0,_=>[]
 | fu1+1,i=>(bif (decide ((i:Int)<10)) then (bif (decide (a.kind=(([22,23,24,25,28,29,30,31,32,34]:List Int).getD i 0))) then (B4 (O3 a.n 1) fun (y27:List UInt8)=>(B4 (A0c ([71,100,73,90,64,80,88,76,77,98]:List UInt8) (i:Int)) fun (y17:List UInt8)=>(y27++y17))) else B0r a fu1 (i+1)) else ([]:List UInt8))
def C3z (a:Act):List UInt8 :=
 (bif (decide (a.kind=20)) then (B4 (O3 a.m 1) fun (y2:List UInt8)=>(B4 (A0c ([65,66,67,68]:List UInt8) a.n) fun (y3:List UInt8)=>(y2++y3))) else (bif (decide (a.kind=21)) then (B4 (O3 a.m 1) fun (y18:List UInt8)=>(B4 (A0c ([69,70]:List UInt8) a.n) fun (y12:List UInt8)=>(y18++y12))) else (bif (decide (a.kind=33)) then (B4 (O3 a.m 1) fun (y15:List UInt8)=>(B4 (A0c ([83,84]:List UInt8) a.n) fun (y14:List UInt8)=>(y15++y14))) else (bif (decide (a.kind=26)) then (B4 (O3 a.n 0) fun (y47:List UInt8)=>(y47++([74]:List UInt8))) else (bif (decide (a.kind=27)) then (B4 (O3 a.n 0) fun (y29:List UInt8)=>(y29++([75]:List UInt8))) else (bif (decide (a.kind=35)) then (B4 (O3 a.n 0) fun (y28:List UInt8)=>(y28++([103]:List UInt8))) else (bif (decide (a.kind=40)) then (B4 (O3 a.n 0) fun (y39:List UInt8)=>(y39++([32,113]:List UInt8))) else B0r a ((10 - 0)+1) 0)))))))
def B2t (a:Act):List UInt8 :=
 (bif (decide (a.kind=19)) then (B4 (A5s a.n a.m 1) fun (y16:List UInt8)=>(y16++([72]:List UInt8))) else (bif (decide (a.kind=38)) then (B4 (A5s a.n a.m 0) fun (y34:List UInt8)=>(y34++([114]:List UInt8))) else (bif (decide (a.kind=36)) then (B4 (A0c ([108,104]:List UInt8) a.m) fun (y3:List UInt8)=>((M4 (a.n.toNat+1) a.n)++y3)) else (bif (decide (a.kind=37)) then (B4 (A0c ([108,104]:List UInt8) a.m) fun (y12:List UInt8)=>((([63]:List UInt8)++(M4 (a.n.toNat+1) a.n))++y12)) else (bif (decide (a.kind=41)) then ((M4 (a.n.toNat+1) a.n)++([110]:List UInt8)) else (bif (decide (a.kind=42)) then ((([([]:List UInt8),([62]:List UInt8)]:List (List UInt8)).getD ((a.n).toNat) [])++([99]:List UInt8)) else (bif (decide (a.kind=43)) then (((([([]:List UInt8),([63]:List UInt8)]:List (List UInt8)).getD ((a.m).toNat) [])++(M4 (a.n.toNat+1) a.n))++([36,112]:List UInt8)) else (B4 (C3z a) fun (y36:List UInt8)=>y36))))))))
def A7v (a:Act):List UInt8 :=
 (bif (decide (a.kind=1)) then (B4 (B4d a.n) fun (y19:List UInt8)=>y19) else (bif (decide (a.kind=44)) then (bif (decide (a.kind=44)) then (B4 (N5 a) fun (y9:List UInt8×Int)=>(((([27,93]:List UInt8)++y9.1)++([27]:List UInt8))++([92]:List UInt8))) else (bif (decide (a.kind=39)) then (B4 (A5t ([a]:List Act)) fun (y10:List UInt8)=>y10) else (B4 (B3u a) fun (y7:List UInt8)=>(bif (!(decide (y7=([]:List UInt8)))) then y7 else (B4 (B2t a) fun (y11:List UInt8)=>(([27,91]:List UInt8)++y11)))))) else (bif (decide (a.kind=45)) then (bif (decide (a.kind=45)) then (B4 (N5 a) fun (y48:List UInt8×Int)=>(((([27,93]:List UInt8)++y48.1)++([27]:List UInt8))++([92]:List UInt8))) else (bif (decide (a.kind=39)) then (B4 (A5t ([a]:List Act)) fun (y42:List UInt8)=>y42) else (B4 (B3u a) fun (y25:List UInt8)=>(bif (!(decide (y25=([]:List UInt8)))) then y25 else (B4 (B2t a) fun (y45:List UInt8)=>(([27,91]:List UInt8)++y45)))))) else (bif (decide (a.kind=46)) then (B4 (N5 a) fun (y32:List UInt8×Int)=>(((([27,93]:List UInt8)++y32.1)++([27]:List UInt8))++([92]:List UInt8))) else (bif (decide (a.kind=39)) then (B4 (A5t ([a]:List Act)) fun (y30:List UInt8)=>y30) else (B4 (B3u a) fun (y24:List UInt8)=>(bif (!(decide (y24=([]:List UInt8)))) then y24 else (B4 (B2t a) fun (y40:List UInt8)=>(([27,91]:List UInt8)++y40)))))))))
end Go.Proofs.YtanighkpfmgnbaaGreatDoor
